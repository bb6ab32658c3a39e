import PyProof.Rows.All
import Wide.All
import OpenK.AllK
import Wide.FinOn
import KE.KStateDown
import Lean
import Open.SpecLaws
import KE.OsGo
import HandS.ForSpec
import HandS.Defaults
import HandS.Head0
import HandS.Head1
import HandS.Head2
import HandS.Head3
import HandS.Head4
import HandS.HeadEnd
import HandS.HeadHook1
import HandS.HeadHook2
import PySem.Challenge.RW_wholestream_s01_answers
import HandS.Dict
import PyProof.EqAt
import PyProof.EqKinds
import PyProof.NeKinds
import PyProof.TupleCall
import HandS.More
import HandS.SortInts
import HandS.CallRecv
import KE.GoesZip
import KE.GoesMore
import KE.GoesEnum
import HandS.Iter
import HandS.WordsDict
import HandS.Comp
import HandS.Flt
import HandS.Evl
import HandS.Spec
import Kp421Neutral
import PyKp421
set_option Elab.async false
set_option linter.all false
set_option maxRecDepth 100000
set_option maxHeartbeats 0
namespace Wt
open PySem PySem.Spec PyProof.Rows L2
def top (i : Nat) : Stmt := PySem.Challenge.pw_wholestream_s01_answers.main.body.getD i (.Pass ⟨0, 0, 0, 0⟩)

abbrev s_Segment_init : Stmt := inClass (top 16) 0
def d_Segment_init : He.DefD := ⟨("Segment", some "__init__"), "__init__", "Segment.__init__", defArgs s_Segment_init, defBody s_Segment_init, defScope s_Segment_init, [], []⟩
abbrev s_Segment_has_flag : Stmt := inClass (top 16) 1
def d_Segment_has_flag : He.DefD := ⟨("Segment", some "has_flag"), "has_flag", "Segment.has_flag", defArgs s_Segment_has_flag, defBody s_Segment_has_flag, defScope s_Segment_has_flag, [], []⟩
abbrev s_Segment_size : Stmt := inClass (top 16) 2
def d_Segment_size : He.DefD := ⟨("Segment", some "size"), "size", "Segment.size", defArgs s_Segment_size, defBody s_Segment_size, defScope s_Segment_size, [], []⟩
abbrev s_Part_init : Stmt := inClass (top 17) 0
def d_Part_init : He.DefD := ⟨("Part", some "__init__"), "__init__", "Part.__init__", defArgs s_Part_init, defBody s_Part_init, defScope s_Part_init, [], []⟩
abbrev s_Part_end : Stmt := inClass (top 17) 1
def d_Part_end : He.DefD := ⟨("Part", some "end"), "end", "Part.end", defArgs s_Part_end, defBody s_Part_end, defScope s_Part_end, [], []⟩
abbrev s_Endpoint_init : Stmt := inClass (top 18) 0
def d_Endpoint_init : He.DefD := ⟨("Endpoint", some "__init__"), "__init__", "Endpoint.__init__", defArgs s_Endpoint_init, defBody s_Endpoint_init, defScope s_Endpoint_init, [], []⟩
abbrev s_Endpoint_in_flight : Stmt := inClass (top 18) 1
def d_Endpoint_in_flight : He.DefD := ⟨("Endpoint", some "in_flight"), "in_flight", "Endpoint.in_flight", defArgs s_Endpoint_in_flight, defBody s_Endpoint_in_flight, defScope s_Endpoint_in_flight, [], []⟩
abbrev s_Endpoint_shown_state : Stmt := inClass (top 18) 2
def d_Endpoint_shown_state : He.DefD := ⟨("Endpoint", some "shown_state"), "shown_state", "Endpoint.shown_state", defArgs s_Endpoint_shown_state, defBody s_Endpoint_shown_state, defScope s_Endpoint_shown_state, [], []⟩
abbrev s_Endpoint_held_bytes : Stmt := inClass (top 18) 3
def d_Endpoint_held_bytes : He.DefD := ⟨("Endpoint", some "held_bytes"), "held_bytes", "Endpoint.held_bytes", defArgs s_Endpoint_held_bytes, defBody s_Endpoint_held_bytes, defScope s_Endpoint_held_bytes, [], []⟩
abbrev s_Endpoint_first_unmarked : Stmt := inClass (top 18) 4
def d_Endpoint_first_unmarked : He.DefD := ⟨("Endpoint", some "first_unmarked"), "first_unmarked", "Endpoint.first_unmarked", defArgs s_Endpoint_first_unmarked, defBody s_Endpoint_first_unmarked, defScope s_Endpoint_first_unmarked, [], []⟩
abbrev s_Endpoint_fail : Stmt := inClass (top 18) 5
def d_Endpoint_fail : He.DefD := ⟨("Endpoint", some "fail"), "fail", "Endpoint.fail", defArgs s_Endpoint_fail, defBody s_Endpoint_fail, defScope s_Endpoint_fail, [], []⟩
abbrev s_Endpoint_early_ranges : Stmt := inClass (top 18) 6
def d_Endpoint_early_ranges : He.DefD := ⟨("Endpoint", some "early_ranges"), "early_ranges", "Endpoint.early_ranges", defArgs s_Endpoint_early_ranges, defBody s_Endpoint_early_ranges, defScope s_Endpoint_early_ranges, [], []⟩
abbrev s_Settings_init : Stmt := inClass (top 19) 0
def d_Settings_init : He.DefD := ⟨("Settings", some "__init__"), "__init__", "Settings.__init__", defArgs s_Settings_init, defBody s_Settings_init, defScope s_Settings_init, [], []⟩
abbrev s_Link_init : Stmt := inClass (top 20) 0
def d_Link_init : He.DefD := ⟨("Link", some "__init__"), "__init__", "Link.__init__", defArgs s_Link_init, defBody s_Link_init, defScope s_Link_init, [], []⟩
abbrev s_Link_window_of : Stmt := inClass (top 20) 1
def d_Link_window_of : He.DefD := ⟨("Link", some "window_of"), "window_of", "Link.window_of", defArgs s_Link_window_of, defBody s_Link_window_of, defScope s_Link_window_of, [], []⟩
abbrev s_sequence_of : Stmt := top 14
def d_sequence_of : He.DefD := ⟨("sequence_of", none), "sequence_of", "sequence_of", defArgs s_sequence_of, defBody s_sequence_of, defScope s_sequence_of, [], []⟩
abbrev s_position_of : Stmt := top 15
def d_position_of : He.DefD := ⟨("position_of", none), "position_of", "position_of", defArgs s_position_of, defBody s_position_of, defScope s_position_of, [], []⟩
abbrev s_transmit : Stmt := top 25
def d_transmit : He.DefD := ⟨("transmit", none), "transmit", "transmit", defArgs s_transmit, defBody s_transmit, defScope s_transmit, [], []⟩
abbrev s_send_acknowledgement : Stmt := top 26
def d_send_acknowledgement : He.DefD := ⟨("send_acknowledgement", none), "send_acknowledgement", "send_acknowledgement", defArgs s_send_acknowledgement, defBody s_send_acknowledgement, defScope s_send_acknowledgement, [], []⟩
abbrev s_transmit_part : Stmt := top 27
def d_transmit_part : He.DefD := ⟨("transmit_part", none), "transmit_part", "transmit_part", defArgs s_transmit_part, defBody s_transmit_part, defScope s_transmit_part, [], []⟩
abbrev s_start_timer : Stmt := top 28
def d_start_timer : He.DefD := ⟨("start_timer", none), "start_timer", "start_timer", defArgs s_start_timer, defBody s_start_timer, defScope s_start_timer, [], []⟩
abbrev s_send_part : Stmt := top 29
def d_send_part : He.DefD := ⟨("send_part", none), "send_part", "send_part", defArgs s_send_part, defBody s_send_part, defScope s_send_part, [], []⟩
abbrev s_send_bytes : Stmt := top 30
def d_send_bytes : He.DefD := ⟨("send_bytes", none), "send_bytes", "send_bytes", defArgs s_send_bytes, defBody s_send_bytes, defScope s_send_bytes, [], []⟩
abbrev s_allowance_of : Stmt := top 31
def d_allowance_of : He.DefD := ⟨("allowance_of", none), "allowance_of", "allowance_of", defArgs s_allowance_of, defBody s_allowance_of, defScope s_allowance_of, [], []⟩
abbrev s_output : Stmt := top 32
def d_output : He.DefD := ⟨("output", none), "output", "output", defArgs s_output, defBody s_output, defScope s_output, [], []⟩
abbrev s_retransmit : Stmt := top 33
def d_retransmit : He.DefD := ⟨("retransmit", none), "retransmit", "retransmit", defArgs s_retransmit, defBody s_retransmit, defScope s_retransmit, [], []⟩
abbrev s_halved : Stmt := top 34
def d_halved : He.DefD := ⟨("halved", none), "halved", "halved", defArgs s_halved, defBody s_halved, defScope s_halved, [], []⟩
abbrev s_double_timeout : Stmt := top 35
def d_double_timeout : He.DefD := ⟨("double_timeout", none), "double_timeout", "double_timeout", defArgs s_double_timeout, defBody s_double_timeout, defScope s_double_timeout, [], []⟩
abbrev s_expire : Stmt := top 36
def d_expire : He.DefD := ⟨("expire", none), "expire", "expire", defArgs s_expire, defBody s_expire, defScope s_expire, [], []⟩
abbrev s_next_endpoint : Stmt := top 37
def d_next_endpoint : He.DefD := ⟨("next_endpoint", none), "next_endpoint", "next_endpoint", defArgs s_next_endpoint, defBody s_next_endpoint, defScope s_next_endpoint, [], []⟩
abbrev s_fire : Stmt := top 38
def d_fire : He.DefD := ⟨("fire", none), "fire", "fire", defArgs s_fire, defBody s_fire, defScope s_fire, [], []⟩
abbrev s_receive : Stmt := top 43
def d_receive : He.DefD := ⟨("receive", none), "receive", "receive", defArgs s_receive, defBody s_receive, defScope s_receive, [], []⟩
abbrev s_receive_reset : Stmt := top 44
def d_receive_reset : He.DefD := ⟨("receive_reset", none), "receive_reset", "receive_reset", defArgs s_receive_reset, defBody s_receive_reset, defScope s_receive_reset, [], []⟩
abbrev s_take_syn : Stmt := top 45
def d_take_syn : He.DefD := ⟨("take_syn", none), "take_syn", "take_syn", defArgs s_take_syn, defBody s_take_syn, defScope s_take_syn, [], []⟩
abbrev s_confirms_syn : Stmt := top 46
def d_confirms_syn : He.DefD := ⟨("confirms_syn", none), "confirms_syn", "confirms_syn", defArgs s_confirms_syn, defBody s_confirms_syn, defScope s_confirms_syn, [], []⟩
abbrev s_receive_listening : Stmt := top 47
def d_receive_listening : He.DefD := ⟨("receive_listening", none), "receive_listening", "receive_listening", defArgs s_receive_listening, defBody s_receive_listening, defScope s_receive_listening, [], []⟩
abbrev s_receive_syn_sent : Stmt := top 48
def d_receive_syn_sent : He.DefD := ⟨("receive_syn_sent", none), "receive_syn_sent", "receive_syn_sent", defArgs s_receive_syn_sent, defBody s_receive_syn_sent, defScope s_receive_syn_sent, [], []⟩
abbrev s_receive_syn_received : Stmt := top 49
def d_receive_syn_received : He.DefD := ⟨("receive_syn_received", none), "receive_syn_received", "receive_syn_received", defArgs s_receive_syn_received, defBody s_receive_syn_received, defScope s_receive_syn_received, [], []⟩
abbrev s_receive_established : Stmt := top 50
def d_receive_established : He.DefD := ⟨("receive_established", none), "receive_established", "receive_established", defArgs s_receive_established, defBody s_receive_established, defScope s_receive_established, [], []⟩
abbrev s_receive_confirmation : Stmt := top 51
def d_receive_confirmation : He.DefD := ⟨("receive_confirmation", none), "receive_confirmation", "receive_confirmation", defArgs s_receive_confirmation, defBody s_receive_confirmation, defScope s_receive_confirmation, [], []⟩
abbrev s_mark_parts : Stmt := top 52
def d_mark_parts : He.DefD := ⟨("mark_parts", none), "mark_parts", "mark_parts", defArgs s_mark_parts, defBody s_mark_parts, defScope s_mark_parts, [], []⟩
abbrev s_count_duplicate : Stmt := top 53
def d_count_duplicate : He.DefD := ⟨("count_duplicate", none), "count_duplicate", "count_duplicate", defArgs s_count_duplicate, defBody s_count_duplicate, defScope s_count_duplicate, [], []⟩
abbrev s_accept : Stmt := top 54
def d_accept : He.DefD := ⟨("accept", none), "accept", "accept", defArgs s_accept, defBody s_accept, defScope s_accept, [], []⟩
abbrev s_take_early : Stmt := top 55
def d_take_early : He.DefD := ⟨("take_early", none), "take_early", "take_early", defArgs s_take_early, defBody s_take_early, defScope s_take_early, [], []⟩
abbrev s_measure : Stmt := top 56
def d_measure : He.DefD := ⟨("measure", none), "measure", "measure", defArgs s_measure, defBody s_measure, defScope s_measure, [], []⟩
abbrev s_grow : Stmt := top 57
def d_grow : He.DefD := ⟨("grow", none), "grow", "grow", defArgs s_grow, defBody s_grow, defScope s_grow, [], []⟩
abbrev s_acknowledge : Stmt := top 58
def d_acknowledge : He.DefD := ⟨("acknowledge", none), "acknowledge", "acknowledge", defArgs s_acknowledge, defBody s_acknowledge, defScope s_acknowledge, [], []⟩
abbrev s_made_link : Stmt := top 70
def d_made_link : He.DefD := ⟨("made_link", none), "made_link", "made_link", defArgs s_made_link, defBody s_made_link, defScope s_made_link, [], []⟩
abbrev s_connect : Stmt := top 71
def d_connect : He.DefD := ⟨("connect", none), "connect", "connect", defArgs s_connect, defBody s_connect, defScope s_connect, [], []⟩
abbrev s_is_barred : Stmt := top 72
def d_is_barred : He.DefD := ⟨("is_barred", none), "is_barred", "is_barred", defArgs s_is_barred, defBody s_is_barred, defScope s_is_barred, [], []⟩
abbrev s_write : Stmt := top 73
def d_write : He.DefD := ⟨("write", none), "write", "write", defArgs s_write, defBody s_write, defScope s_write, [], []⟩
abbrev s_read : Stmt := top 74
def d_read : He.DefD := ⟨("read", none), "read", "read", defArgs s_read, defBody s_read, defScope s_read, [], []⟩
abbrev s_close : Stmt := top 75
def d_close : He.DefD := ⟨("close", none), "close", "close", defArgs s_close, defBody s_close, defScope s_close, [], []⟩
abbrev s_abort : Stmt := top 76
def d_abort : He.DefD := ⟨("abort", none), "abort", "abort", defArgs s_abort, defBody s_abort, defScope s_abort, [], []⟩
abbrev s_list_segments : Stmt := top 77
def d_list_segments : He.DefD := ⟨("list_segments", none), "list_segments", "list_segments", defArgs s_list_segments, defBody s_list_segments, defScope s_list_segments, [], []⟩
abbrev s_show_segment : Stmt := top 78
def d_show_segment : He.DefD := ⟨("show_segment", none), "show_segment", "show_segment", defArgs s_show_segment, defBody s_show_segment, defScope s_show_segment, [], []⟩
abbrev s_deliver : Stmt := top 79
def d_deliver : He.DefD := ⟨("deliver", none), "deliver", "deliver", defArgs s_deliver, defBody s_deliver, defScope s_deliver, [], []⟩
abbrev s_drop : Stmt := top 80
def d_drop : He.DefD := ⟨("drop", none), "drop", "drop", defArgs s_drop, defBody s_drop, defScope s_drop, [], []⟩
abbrev s_copy_segment : Stmt := top 81
def d_copy_segment : He.DefD := ⟨("copy_segment", none), "copy_segment", "copy_segment", defArgs s_copy_segment, defBody s_copy_segment, defScope s_copy_segment, [], []⟩
abbrev s_postpone : Stmt := top 82
def d_postpone : He.DefD := ⟨("postpone", none), "postpone", "postpone", defArgs s_postpone, defBody s_postpone, defScope s_postpone, [], []⟩
abbrev s_segment_deed : Stmt := top 83
def d_segment_deed : He.DefD := ⟨("segment_deed", none), "segment_deed", "segment_deed", defArgs s_segment_deed, defBody s_segment_deed, defScope s_segment_deed, [], []⟩
abbrev s_advance : Stmt := top 84
def d_advance : He.DefD := ⟨("advance", none), "advance", "advance", defArgs s_advance, defBody s_advance, defScope s_advance, [], []⟩
abbrev s_next_timer : Stmt := top 85
def d_next_timer : He.DefD := ⟨("next_timer", none), "next_timer", "next_timer", defArgs s_next_timer, defBody s_next_timer, defScope s_next_timer, [], []⟩
abbrev s_fire_timer : Stmt := top 86
def d_fire_timer : He.DefD := ⟨("fire_timer", none), "fire_timer", "fire_timer", defArgs s_fire_timer, defBody s_fire_timer, defScope s_fire_timer, [], []⟩
abbrev s_step : Stmt := top 87
def d_step : He.DefD := ⟨("step", none), "step", "step", defArgs s_step, defBody s_step, defScope s_step, [], []⟩
abbrev s_run : Stmt := top 88
def d_run : He.DefD := ⟨("run", none), "run", "run", defArgs s_run, defBody s_run, defScope s_run, [], []⟩
abbrev s_status : Stmt := top 89
def d_status : He.DefD := ⟨("status", none), "status", "status", defArgs s_status, defBody s_status, defScope s_status, [], []⟩
abbrev s_congestion : Stmt := top 90
def d_congestion : He.DefD := ⟨("congestion", none), "congestion", "congestion", defArgs s_congestion, defBody s_congestion, defScope s_congestion, [], []⟩
abbrev s_list_outstanding : Stmt := top 91
def d_list_outstanding : He.DefD := ⟨("list_outstanding", none), "list_outstanding", "list_outstanding", defArgs s_list_outstanding, defBody s_list_outstanding, defScope s_list_outstanding, [], []⟩
abbrev s_show_ranges : Stmt := top 92
def d_show_ranges : He.DefD := ⟨("show_ranges", none), "show_ranges", "show_ranges", defArgs s_show_ranges, defBody s_show_ranges, defScope s_show_ranges, [], []⟩
abbrev s_totals : Stmt := top 93
def d_totals : He.DefD := ⟨("totals", none), "totals", "totals", defArgs s_totals, defBody s_totals, defScope s_totals, [], []⟩
abbrev s_statistics : Stmt := top 94
def d_statistics : He.DefD := ⟨("statistics", none), "statistics", "statistics", defArgs s_statistics, defBody s_statistics, defScope s_statistics, [], []⟩
abbrev s_side_change : Stmt := top 101
def d_side_change : He.DefD := ⟨("side_change", none), "side_change", "side_change", defArgs s_side_change, defBody s_side_change, defScope s_side_change, [], []⟩
abbrev s_side_question : Stmt := top 102
def d_side_question : He.DefD := ⟨("side_question", none), "side_question", "side_question", defArgs s_side_question, defBody s_side_question, defScope s_side_question, [], []⟩
abbrev s_clock_deed : Stmt := top 103
def d_clock_deed : He.DefD := ⟨("clock_deed", none), "clock_deed", "clock_deed", defArgs s_clock_deed, defBody s_clock_deed, defScope s_clock_deed, [], []⟩
abbrev s_deed : Stmt := top 104
def d_deed : He.DefD := ⟨("deed", none), "deed", "deed", defArgs s_deed, defBody s_deed, defScope s_deed, [], []⟩
abbrev s_answers : Stmt := top 105
def d_answers : He.DefD := ⟨("answers", none), "answers", "answers", defArgs s_answers, defBody s_answers, defScope s_answers, [], []⟩
end Wt
set_option Elab.async false
set_option linter.all false
set_option maxRecDepth 100000
set_option maxHeartbeats 0
namespace Wh
open PySem PySem.Spec PyProof.Rows L2 Wt
def fn_0 : List He.DefD := [d_Segment_init, d_Segment_has_flag, d_Segment_size, d_Part_init, d_Part_end, d_Endpoint_init, d_Endpoint_in_flight, d_Endpoint_shown_state, d_Endpoint_held_bytes, d_Endpoint_first_unmarked, d_Endpoint_fail, d_Endpoint_early_ranges, d_Settings_init, d_Link_init, d_Link_window_of, d_sequence_of, d_position_of, d_transmit, d_send_acknowledgement, d_transmit_part, d_start_timer, d_send_part, d_send_bytes, d_allowance_of, d_output, d_retransmit, d_halved, d_double_timeout, d_expire, d_next_endpoint]
def fn_1 : List He.DefD := [d_fire, d_receive, d_receive_reset, d_take_syn, d_confirms_syn, d_receive_listening, d_receive_syn_sent, d_receive_syn_received, d_receive_established, d_receive_confirmation, d_mark_parts, d_count_duplicate, d_accept, d_take_early, d_measure, d_grow, d_acknowledge, d_made_link, d_connect, d_is_barred, d_write, d_read, d_close, d_abort, d_list_segments, d_show_segment, d_deliver, d_drop, d_copy_segment, d_postpone]
def fn_2 : List He.DefD := [d_segment_deed, d_advance, d_next_timer, d_fire_timer, d_step, d_run, d_status, d_congestion, d_list_outstanding, d_show_ranges, d_totals, d_statistics, d_side_change, d_side_question, d_clock_deed, d_deed, d_answers]
def fn : List He.DefD := fn_0 ++ fn_1 ++ fn_2
def fa_0 : List He.Fa := [.glo "Segment", .cls "Segment", .mkr "Segment", .noat "Segment" "sender", .noat "Segment" "flags", .noat "Segment" "sequence", .noat "Segment" "payload", .noat "Segment" "window", .noat "Segment" "confirmed", .noat "Segment" "blocks", .meth "Segment" "has_flag", .meth "Segment" "size", .glo "Part", .cls "Part", .mkr "Part", .noat "Part" "position", .noat "Part" "flag", .noat "Part" "payload", .noat "Part" "sent_at", .noat "Part" "transmissions", .noat "Part" "marked", .meth "Part" "end", .glo "Endpoint", .cls "Endpoint", .mkr "Endpoint", .noat "Endpoint" "side", .noat "Endpoint" "initial", .noat "Endpoint" "state", .noat "Endpoint" "acknowledged", .noat "Endpoint" "next_position"]
def fa_1 : List He.Fa := [.noat "Endpoint" "unsent", .noat "Endpoint" "parts", .noat "Endpoint" "closing", .noat "Endpoint" "fin_sent", .noat "Endpoint" "peer_initial", .noat "Endpoint" "expected", .noat "Endpoint" "readable", .noat "Endpoint" "early", .noat "Endpoint" "fin_position", .noat "Endpoint" "fin_received", .noat "Endpoint" "peer_window", .noat "Endpoint" "congestion", .noat "Endpoint" "threshold", .noat "Endpoint" "timeout", .noat "Endpoint" "timer", .noat "Endpoint" "duplicates", .noat "Endpoint" "retransmissions", .noat "Endpoint" "measured", .noat "Endpoint" "smoothed", .noat "Endpoint" "variation", .noat "Endpoint" "written", .noat "Endpoint" "consumed", .meth "Endpoint" "in_flight", .meth "Endpoint" "shown_state", .meth "Endpoint" "held_bytes", .meth "Endpoint" "first_unmarked", .meth "Endpoint" "fail", .meth "Endpoint" "early_ranges", .glo "Settings", .cls "Settings"]
def fa_2 : List He.Fa := [.mkr "Settings", .noat "Settings" "segment_size", .noat "Settings" "buffer", .noat "Settings" "timeout", .noat "Settings" "attempts", .noat "Settings" "initials", .glo "Link", .cls "Link", .mkr "Link", .noat "Link" "settings", .noat "Link" "now", .noat "Link" "ends", .noat "Link" "segments", .noat "Link" "sent", .noat "Link" "delivered", .noat "Link" "lost", .meth "Link" "window_of", .glo "sequence_of", .glo "position_of", .glo "transmit", .glo "send_acknowledgement", .glo "transmit_part", .glo "start_timer", .glo "send_part", .glo "send_bytes", .glo "allowance_of", .glo "output", .glo "retransmit", .glo "halved", .glo "double_timeout"]
def fa_3 : List He.Fa := [.glo "expire", .glo "next_endpoint", .glo "fire", .glo "receive", .glo "receive_reset", .glo "take_syn", .glo "confirms_syn", .glo "receive_listening", .glo "receive_syn_sent", .glo "receive_syn_received", .glo "receive_established", .glo "receive_confirmation", .glo "mark_parts", .glo "count_duplicate", .glo "accept", .glo "take_early", .glo "measure", .glo "grow", .glo "acknowledge", .glo "made_link", .glo "connect", .glo "is_barred", .glo "write", .glo "read", .glo "close", .glo "abort", .glo "list_segments", .glo "show_segment", .glo "deliver", .glo "drop"]
def fa_4 : List He.Fa := [.glo "copy_segment", .glo "postpone", .glo "segment_deed", .glo "advance", .glo "next_timer", .glo "fire_timer", .glo "step", .glo "run", .glo "status", .glo "congestion", .glo "list_outstanding", .glo "show_ranges", .glo "totals", .glo "statistics", .glo "side_change", .glo "side_question", .glo "clock_deed", .glo "deed", .glo "answers", .int "MODULUS" (65536), .int "HALF" (32768), .int "SYN" (1), .int "FIN" (2), .int "RESET" (4), .int "ACKNOWLEDGEMENT" (8), .int "CLOSED" (0), .int "LISTENING" (1), .int "SYN_SENT" (2), .int "SYN_RECEIVED" (3), .int "ESTABLISHED" (4)]
def fa_5 : List He.Fa := [.int "FAILED" (8), .int "NO_FIN" (-1), .int "MOST_SEGMENTS" (60), .int "MOST_BLOCKS" (3), .int "MOST_TIMEOUT" (60000), .int "LEAST_TIMEOUT" (20), .int "MOST_CONGESTION" (10000), .int "ENOUGH_DUPLICATES" (3), .int "NO_SIDE" (-2), .int "BEYOND" (-22), .int "WRONG_STATE" (-16), .int "FULL" (-28), .int "NO_TIMER" (-33), .int "GREATEST_BYTE" (255), .int "LONGEST" (100000), .int "MOST_EXPIRED" (10000), .int "MOST_FATES" (64), .int "NO_LINK" (-11), .int "CREATE" (0), .int "WRITE" (2), .int "RUN" (15), .free "len", .free "max", .free "min", .free "sum", .free "sorted", .free "range", .free "int", .free "zip", .free "abs"]
def fa_6 : List He.Fa := [.glo "LIMITS", .glo "COUNTS"]
def fa : List He.Fa := fa_0 ++ fa_1 ++ fa_2 ++ fa_3 ++ fa_4 ++ fa_5 ++ fa_6
def loose_0 : List PySem.Str := ["MODULUS", "HALF", "SYN", "FIN", "RESET", "ACKNOWLEDGEMENT", "CLOSED", "LISTENING", "SYN_SENT", "SYN_RECEIVED", "ESTABLISHED", "FAILED", "NO_FIN", "MOST_SEGMENTS", "MOST_BLOCKS", "MOST_TIMEOUT", "LEAST_TIMEOUT", "MOST_CONGESTION", "ENOUGH_DUPLICATES", "NO_SIDE", "BEYOND", "WRONG_STATE", "FULL", "NO_TIMER", "GREATEST_BYTE", "LONGEST", "MOST_EXPIRED", "MOST_FATES", "NO_LINK", "CREATE"]
def loose_1 : List PySem.Str := ["WRITE", "RUN", "LIMITS", "COUNTS", "Segment", "Part", "Endpoint", "Settings", "Link", "sequence_of", "position_of", "transmit", "send_acknowledgement", "transmit_part", "start_timer", "send_part", "send_bytes", "allowance_of", "output", "retransmit", "halved", "double_timeout", "expire", "next_endpoint", "fire", "receive", "receive_reset", "take_syn", "confirms_syn", "receive_listening"]
def loose_2 : List PySem.Str := ["receive_syn_sent", "receive_syn_received", "receive_established", "receive_confirmation", "mark_parts", "count_duplicate", "accept", "take_early", "measure", "grow", "acknowledge", "made_link", "connect", "is_barred", "write", "read", "close", "abort", "list_segments", "show_segment", "deliver", "drop", "copy_segment", "postpone", "segment_deed", "advance", "next_timer", "fire_timer", "step", "run"]
def loose_3 : List PySem.Str := ["status", "congestion", "list_outstanding", "show_ranges", "totals", "statistics", "side_change", "side_question", "clock_deed", "deed"]
def loose : List PySem.Str := loose_0 ++ loose_1 ++ loose_2 ++ loose_3

abbrev R : PySem.W.OpenSpec := PySem.Challenge.rw_wholestream_s01_answers
/-- the tuple at an address, as the text has it -/
def tupAt (K : PySem.W.Frag) (a : Addr) (vs : List V) : Bool := match K.lookup a with
  | some ⟨.type c, _, .seq its _, _⟩ => decide (c = "tuple") && (decide (its.size ≤ sizeLine) && He.relAll vs its.toList)
  | _ => false
def itemAt (K : PySem.W.Frag) (a : Addr) (i : Nat) : Addr := match K.lookup a with
  | some ⟨_, _, .seq its _, _⟩ => (match its.toList[i]? with
    | some (.ref b) => b
    | _ => 0)
  | _ => 0
def counts : List Int := [6, 0, 1, 2, 1, 1, 0, 1, 1, 1, 1, 1, 1, 0, 0, 0, 1, 1, 1, 1, 1, 0]
def limits : List (Int × Int) := [(1, 20), (1, 200), (20, 10000), (1, 8), (0, 65535), (0, 65535)]
def limAt (K : PySem.W.Frag) (i : Nat) : Addr := itemAt K (He.ga K "LIMITS") i
def tabs (K : PySem.W.Frag) : Bool := tupAt K (He.ga K "COUNTS") (counts.map V.int) && (tupAt K (He.ga K "LIMITS") ((List.range 6).map fun i => V.ref (limAt K i)) && (List.range 6).all fun i => match limits[i]? with
  | some p => tupAt K (limAt K i) [.int p.1, .int p.2]
  | none => false)
def obsW (K : PySem.W.Frag) : Bool × He.AlD := (tabs K, He.obsD fa fn K)
def valW : Bool × He.AlD := (true, He.valD fn)
def SaysW (K : PySem.W.Frag) : Prop := obsW K = valW
/-- where what is read lies: the names, the classes and theirs, the tables, each function and its code (the run says that it is right) -/
def ads : List Addr := [3, 59, 58, 87, 86, 148, 147, 169, 168, 197, 196, 408, 409, 410, 411, 412, 413, 414, 590, 21, 20, 28, 27, 42, 41, 49, 48, 56, 55, 77, 76, 84, 83, 105, 104, 112, 111, 119, 118, 124, 123, 131, 130, 138, 137, 145, 144, 166, 165, 187, 186, 194, 193, 208, 207, 215, 214, 222, 221, 229, 228, 236, 235, 243, 242, 250, 249, 257, 256, 264, 263, 271, 270, 278, 277, 285, 284, 290, 289, 297, 296, 304, 303, 311, 310, 318, 317, 325, 324, 332, 331, 339, 338, 346, 345, 353, 352, 360, 359, 367, 366, 374, 373, 381, 380, 388, 387, 395, 394, 402, 401, 407, 406, 421, 420, 428, 427, 435, 434, 442, 441, 449, 448, 456, 455, 463, 462, 470, 469, 477, 476, 484, 483, 491, 490, 498, 497, 505, 504, 512, 511, 519, 518, 526, 525, 533, 532, 540, 539, 547, 546, 554, 553, 561, 560, 568, 567, 575, 574, 582, 581, 589, 588, 597, 596, 604, 603, 611, 610, 618, 617, 625, 624]
def obG (g : Addr → Option Obj) : Bool × He.AlD := obsW (He.frG g ads)
def hk : PySem.W.Hook where
  α := Bool × He.AlD
  obs := fun s => obG s.heap.get?
  val := fun _ => valW
  says := fun _ h => ∃ K : PySem.W.Frag, K.In h ∧ SaysW K
  of := fun _ _ e => ⟨_, He.frG_in, e⟩
  keeps := fun _ _ _ ⟨K, hK, c⟩ k => ⟨K, PySem.W.Frag.In.keeps hK k, c⟩
def ob (s : PySem.W.SharedT) : Bool × He.AlD := obG (HandSHeadRun.getT s)
theorem ob_eq (s : PySem.W.SharedT) : ob s = hk.obs s.abs := by
  have e : HandSHeadRun.getT s = s.abs.heap.get? := funext (HandSHeadRun.getT_eq s)
  show obG (HandSHeadRun.getT s) = obG s.abs.heap.get?
  rw [e]
abbrev qv : Program := PySem.W.view R.prog [105]
theorem both {S A B C : Type} {x : Option S} {f : S → A} {g : S → B} {k : S → C} {a : A} {b : B} {c : C} (h1 : x.map (fun s => (f s, g s)) = some (a, b)) (h2 : x.map k = some c) : x.map (fun s => (f s, g s, k s)) = some (a, b, c) := by
  cases x with
  | none => cases h1
  | some s =>
    have e1 : (f s, g s) = (a, b) := Option.some.inj h1
    have e2 : k s = c := Option.some.inj h2
    show some (f s, g s, k s) = some (a, b, c)
    rw [e2, (Prod.mk.inj e1).1, (Prod.mk.inj e1).2]
section
open PySem.W PySem.Calls HandSHeadRun
/-- the run, in two looks: the kernel's memory is given back between them -/
theorem run_a (w : World) (os : OsState) : (endF (stepQ (denQ tabQ) R.prog w) 6000 R.prog w os).map (fun s => (looksF R.prog (boot_heap w.params) s.abs, seenQ qv loose (importedModules R.prog.main.body) (fun s => xlAt qv [] s && recOk [] s) s.abs)) = some (true, openGood qv loose) := by
  kernel_rfl
theorem run_b (w : World) (os : OsState) : (endF (stepQ (denQ tabQ) R.prog w) 6000 R.prog w os).map (fun s => ob s) = some (hk.val w) := by
  kernel_rfl
theorem run (w : World) : RunEqS R qv hk ob 6000 loose w := by
  intro os
  exact both (run_a w os) (run_b w os)
end
theorem look_bare : R.prog.bare := ⟨rfl, rfl, rfl, rfl, rfl, by decide +kernel⟩
theorem look_text : PySem.W.Fast.tw12908688711261696721 R.prog = true := by
  kernel_rfl
theorem look_said : R.wellSaid = true := by
  unfold PySem.W.OpenSpec.wellSaid
  rw [(congrFun PySem.W.Fast.te12908688711261696721 R.prog).trans look_text]
  decide +kernel
end Wh
/-! The mirror: each def as a plain Lean function over records of whole numbers. none: a bound is broken (a list too long, a count out of range). Nothing of the library. -/
set_option linter.all false
namespace Ws

structure MSeg where
  sender : Int
  flags : Int
  seq : Int
  payload : List Int
  window : Int
  confirmed : Int
  blocks : List (Int × Int)
  deriving DecidableEq
structure MPart where
  position : Int
  flag : Int
  payload : List Int
  sentAt : Int
  transmissions : Int
  marked : Bool
  deriving DecidableEq
structure MEnd where
  side : Int
  initial : Int
  state : Int
  acknowledged : Int
  next : Int
  unsent : List Int
  parts : List MPart
  closing : Bool
  finSent : Bool
  peerInitial : Int
  expected : Int
  readable : List Int
  early : List (Int × Int)
  finPos : Int
  finReceived : Bool
  peerWindow : Int
  congestion : Int
  threshold : Int
  timeout : Int
  timer : Option Int
  duplicates : Int
  retrans : Int
  measured : Bool
  smoothed : Int
  variation : Int
  written : Int
  consumed : Int
  deriving DecidableEq
/-- the link without its endpoints -/
structure MNet where
  size : Int
  buffer : Int
  timeout : Int
  attempts : Int
  ini : List Int
  now : Int
  segs : List MSeg
  sent : Int
  delivered : Int
  lost : Int
  deriving DecidableEq
structure MLink where
  n : MNet
  a : MEnd
  b : MEnd
  deriving DecidableEq

/-! ### numbers -/
def pmax (i j : Int) : Int := if j > i then j else i
def pmin (i j : Int) : Int := if j < i then j else i
def seqOf (i p : Int) : Int := (i + p) % 65536
def posOf (i s r : Int) : Int := if (s - (i + r)) % 65536 < 32768 then r + (s - (i + r)) % 65536 else r + (s - (i + r)) % 65536 - 65536
def band (a b : Int) : Int := ((a.toNat &&& b.toNat : Nat) : Int)
def b2n (b : Bool) : Int := if b then 1 else 0
def MSeg.has (g : MSeg) (f : Int) : Bool := !decide (band g.flags f = 0)
def MSeg.size (g : MSeg) : Int := (g.payload.length : Int) + b2n (g.has 1) + b2n (g.has 2)
def MPart.fin (p : MPart) : Int := p.position + (p.payload.length : Int) + b2n (decide (0 < p.flag))

/-! ### an endpoint's own -/
def MEnd.inFlight (e : MEnd) : Int := e.next - e.acknowledged
def win (n : MNet) (e : MEnd) : Int := n.buffer - (e.readable.length : Int)
def MEnd.shown (e : MEnd) : Int := if e.state ≠ 4 then e.state else if (e.finSent && (e.parts.isEmpty && e.finReceived)) = true then 7 else if e.finReceived = true then 6 else if e.finSent = true then 5 else 4
def MEnd.held (e : MEnd) : Int := (e.unsent.length : Int) + (e.parts.map fun p => (p.payload.length : Int)).sum
def MEnd.failed (e : MEnd) : MEnd := { e with state := 8, unsent := [], parts := [], timer := none }
/-- one position more behind the ranges -/
def rgStep (found : List (Int × Int)) (p : Int) : List (Int × Int) := match found.getLast? with
  | none => found ++ [(p, p + 1)]
  | some r => if r.2 = p then found.dropLast ++ [(r.1, p + 1)] else found ++ [(p, p + 1)]
def rgOf (l : List Int) : List (Int × Int) := l.foldl rgStep []
def insI (x : Int) : List Int → List Int
  | [] => [x]
  | y :: r => if x ≤ y then x :: y :: r else y :: insI x r
def sortI (l : List Int) : List Int := l.foldr insI []
def MEnd.ranges (e : MEnd) : List (Int × Int) := rgOf (sortI (e.early.map (·.1)))
/-- the lists' sizes -/
def BdE (e : MEnd) : Prop := e.early.length ≤ 10000 ∧ e.parts.length ≤ 10000 ∧ e.unsent.length ≤ 10000 ∧ e.readable.length ≤ 10000
instance (e : MEnd) : Decidable (BdE e) := by unfold BdE; infer_instance

/-! ### sending -/
def mkSeg (n : MNet) (e : MEnd) (fl pos : Int) (pl : List Int) : MSeg :=
  if e.expected = 0 then ⟨e.side, fl, seqOf e.initial pos, pl, win n e, 0, []⟩
  else ⟨e.side, fl + 8, seqOf e.initial pos, pl, win n e, seqOf e.peerInitial e.expected, (e.ranges.take 3).map fun r => (seqOf e.peerInitial r.1, seqOf e.peerInitial r.2)⟩
def putSeg (n : MNet) (g : MSeg) : MNet := if (n.segs.length : Int) < 60 then { n with segs := n.segs ++ [g], sent := n.sent + 1 } else { n with sent := n.sent + 1, lost := n.lost + 1 }
def transmit (n : MNet) (e : MEnd) (fl pos : Int) (pl : List Int) : Option MNet := if e.early.length ≤ 10000 then some (putSeg n (mkSeg n e fl pos pl)) else none
def sendAck (n : MNet) (e : MEnd) : Option MNet := transmit n e 0 e.next []
def transmitPart (n : MNet) (e : MEnd) (p : MPart) : Option MNet := transmit n e p.flag p.position p.payload
def startTimer (n : MNet) (e : MEnd) : MEnd := { e with timer := some (n.now + e.timeout) }
def newPart (n : MNet) (e : MEnd) (flag : Int) (pl : List Int) : MPart := ⟨e.next, flag, pl, n.now, 1, false⟩
def addPart (e : MEnd) (p : MPart) : MEnd := { e with next := p.fin, parts := e.parts ++ [p] }
def sendPart (n : MNet) (e : MEnd) (flag : Int) (pl : List Int) : Option (MNet × MEnd) :=
  if e.parts.length ≤ 10000 then
    (transmitPart n (addPart e (newPart n e flag pl)) (newPart n e flag pl)).bind fun n1 =>
      some (n1, if e.timer = none then startTimer n1 (addPart e (newPart n e flag pl)) else addPart e (newPart n e flag pl))
  else none
def sendBytes (n : MNet) (e : MEnd) (many : Int) : Option (MNet × MEnd) :=
  if 0 ≤ many then sendPart n { e with unsent := e.unsent.drop many.toNat } 0 (e.unsent.take many.toNat) else none
def allowance (e : MEnd) : Int := pmax 0 (pmin e.congestion e.peerWindow - e.inFlight)
def outLoop : Nat → MNet → MEnd → Option (MNet × MEnd)
  | 0, n, e => if e.unsent = [] then some (n, e) else none
  | k + 1, n, e => if e.unsent ≠ [] ∧ 0 < allowance e then (sendBytes n e (pmin (pmin n.size (allowance e)) (e.unsent.length : Int))).bind fun r => outLoop k r.1 r.2 else some (n, e)
def outEnd (n : MNet) (e : MEnd) : Option (MNet × MEnd) :=
  if e.unsent = [] then (if e.closing = true ∧ e.finSent = false then sendPart n { e with finSent := true } 2 [] else some (n, e))
  else if e.parts = [] ∧ e.timer = none then some (n, startTimer n e) else some (n, e)
def output (n : MNet) (e : MEnd) : Option (MNet × MEnd) :=
  if e.state ≠ 4 then some (n, e) else (outLoop e.unsent.length n e).bind fun r => outEnd r.1 r.2
/-- the place of the first part that is not marked -/
def MEnd.unmarked (e : MEnd) : Option Nat := e.parts.findIdx? fun p => !p.marked
def retransmit (n : MNet) (e : MEnd) : Option (MNet × MEnd) := match e.unmarked with
  | none => some (n, e)
  | some k => match e.parts[k]? with
    | none => none
    | some p => (transmitPart n { e with parts := e.parts.set k { p with transmissions := p.transmissions + 1 }, retrans := e.retrans + 1 } { p with transmissions := p.transmissions + 1 }).bind fun n1 =>
        some (n1, { e with parts := e.parts.set k { p with transmissions := p.transmissions + 1 }, retrans := e.retrans + 1 })
def halved (n : MNet) (e : MEnd) : Int := pmax (e.inFlight / 2) (2 * n.size)
def doubled (e : MEnd) : MEnd := { e with timeout := pmin (2 * e.timeout) 60000 }
def backOff (n : MNet) (e : MEnd) : MEnd := { startTimer n (doubled { e with threshold := halved n e, congestion := n.size }) with duplicates := 0 }
def expire (n : MNet) (e : MEnd) : Option (MNet × MEnd) :=
  if e.parts = [] then (if e.unsent ≠ [] then sendBytes n (doubled { e with timer := none }) 1 else some (n, { e with timer := none }))
  else match e.unmarked with
    | none => retransmit n (backOff n { e with timer := none })
    | some k => match e.parts[k]? with
      | none => none
      | some p => if p.transmissions ≥ n.attempts then some (n, ({ e with timer := none } : MEnd).failed) else retransmit n (backOff n { e with timer := none })

/-! ### receiving -/
def measure (n : MNet) (e : MEnd) (p : MPart) : MEnd :=
  if e.measured = false then { e with measured := true, smoothed := 8 * (n.now - p.sentAt), variation := 2 * (n.now - p.sentAt), timeout := pmin 60000 (pmax 20 (8 * (n.now - p.sentAt) / 8 + 2 * (n.now - p.sentAt))) }
  else
    let s := e.smoothed + (n.now - p.sentAt - e.smoothed / 8)
    let v := e.variation + ((if n.now - p.sentAt - e.smoothed / 8 < 0 then -(n.now - p.sentAt - e.smoothed / 8) else n.now - p.sentAt - e.smoothed / 8) - e.variation / 4)
    { e with smoothed := s, variation := v, timeout := pmin 60000 (pmax 20 (s / 8 + v)) }
def grow (n : MNet) (e : MEnd) (many : Int) : Option MEnd :=
  if 1 ≤ e.congestion ∧ e.congestion ≤ 100000 ∧ 0 ≤ n.size ∧ n.size ≤ 1000 then
    some { e with congestion := pmin (if e.congestion < e.threshold then e.congestion + pmin many n.size else e.congestion + pmax 1 (n.size * n.size / e.congestion)) 10000 }
  else none
def trimmed (pos : Int) : List MPart → List MPart
  | [] => []
  | p :: r => if p.position < pos then { p with payload := p.payload.drop (pos - p.position).toNat, position := pos } :: r else p :: r
def settle (n : MNet) (e : MEnd) (pos : Int) : MEnd :=
  { e with acknowledged := pos, parts := trimmed pos (e.parts.filter fun p => decide (p.fin > pos)), duplicates := 0, timer := if trimmed pos (e.parts.filter fun p => decide (p.fin > pos)) = [] then none else some (n.now + e.timeout) }
def measured (n : MNet) (e : MEnd) (pos : Int) : MEnd := match (e.parts.filter fun p => decide (p.fin ≤ pos)).getLast? with
  | none => e
  | some p => if p.transmissions = 1 then measure n e p else e
def acknowledge (n : MNet) (e : MEnd) (pos : Int) : Option MEnd :=
  if e.parts.length ≤ 10000 then
    (if e.state = 4 then grow n (measured n e pos) (pos - e.acknowledged) else some (measured n e pos)).bind fun e2 => some (settle n e2 pos)
  else none
def recvReset (n : MNet) (e : MEnd) (g : MSeg) : MEnd :=
  if e.state = 2 ∨ e.state = 3 then e.failed
  else if e.state = 4 then (if e.expected ≤ posOf e.peerInitial g.seq e.expected ∧ posOf e.peerInitial g.seq e.expected < e.expected + pmax 1 (win n e) then e.failed else e)
  else e
def takeSyn (e : MEnd) (g : MSeg) : MEnd := { e with peerInitial := g.seq, expected := 1, peerWindow := g.window }
def confirmsSyn (e : MEnd) (g : MSeg) : Bool := if g.has 8 = false then false else decide (g.confirmed = seqOf e.initial 1)
def recvListening (n : MNet) (e : MEnd) (g : MSeg) : Option (MNet × MEnd) := if g.has 1 = true ∧ g.has 8 = false then sendPart n { takeSyn e g with state := 3 } 1 [] else some (n, e)
def recvSynSent (n : MNet) (e : MEnd) (g : MSeg) : Option (MNet × MEnd) :=
  if g.has 1 = true ∧ confirmsSyn e g = true then (acknowledge n (takeSyn { e with state := 4 } g) 1).bind fun e1 => (sendAck n e1).bind fun n1 => output n1 e1 else some (n, e)
def markBy (i k : Int) (b : Int × Int) (p : MPart) : MPart := if posOf i b.1 k ≤ p.position ∧ p.fin ≤ posOf i b.2 k then { p with marked := true } else p
def markParts (e : MEnd) (g : MSeg) : MEnd := { e with parts := g.blocks.foldl (fun ps b => ps.map (markBy e.initial e.acknowledged b)) e.parts }
def countDup (n : MNet) (e : MEnd) : Option (MNet × MEnd) :=
  if e.duplicates + 1 = 3 then retransmit n (startTimer n { e with duplicates := e.duplicates + 1, threshold := halved n e, congestion := halved n e })
  else some (n, { e with duplicates := e.duplicates + 1 })
def aliveFirst : List MPart → List MPart
  | [] => []
  | p :: r => { p with transmissions := 1 } :: r
def isDup (e : MEnd) (g : MSeg) (pos : Int) : Bool := decide (pos = e.acknowledged) && (decide (g.size = 0) && (decide (g.window = e.peerWindow) && !e.parts.isEmpty))
def alive (e : MEnd) (g : MSeg) (pos : Int) : MEnd := if pos = e.acknowledged ∧ g.window = 0 then { e with parts := aliveFirst e.parts } else e
def recvConf (n : MNet) (e : MEnd) (g : MSeg) (pos : Int) : Option (MNet × MEnd) :=
  if pos = e.acknowledged then (if isDup e g pos = true then countDup n (alive (markParts { e with peerWindow := g.window } g) g pos) else some (n, alive (markParts { e with peerWindow := g.window } g) g pos))
  else (acknowledge n (alive (markParts { e with peerWindow := g.window } g) g pos) pos).bind fun e2 => some (n, e2)
def putD (kvs : List (Int × Int)) (k v : Int) : List (Int × Int) := if (kvs.any fun q => decide (q.1 = k)) = true then kvs.map (fun q => if q.1 = k then (q.1, v) else q) else kvs ++ [(k, v)]
def storeFrom (lo hi pos : Int) : List Int → List (Int × Int) → List (Int × Int)
  | [], kvs => kvs
  | v :: r, kvs => storeFrom lo hi (pos + 1) r (if lo ≤ pos ∧ pos < hi then putD kvs pos v else kvs)
def takeLoop : Nat → MEnd → MEnd
  | 0, e => e
  | k + 1, e => match e.early.find? fun q => decide (q.1 = e.expected) with
    | none => e
    | some q => takeLoop k { e with readable := e.readable ++ [q.2], early := e.early.filter fun x => decide (x.1 ≠ e.expected), expected := e.expected + 1 }
def takeFin (e : MEnd) : MEnd := if e.expected = e.finPos then { e with finReceived := true, expected := e.expected + 1 } else e
def takeEarly (e : MEnd) : MEnd := takeFin (takeLoop e.early.length e)
def storeSeg (n : MNet) (e : MEnd) (g : MSeg) (pos : Int) : MEnd :=
  { e with early := storeFrom e.expected (e.expected + win n e) pos g.payload e.early, finPos := if g.has 2 = true ∧ pos + (g.payload.length : Int) ≤ e.expected + win n e then pos + (g.payload.length : Int) else e.finPos }
def accept (n : MNet) (e : MEnd) (g : MSeg) : Option MEnd :=
  if e.early.length ≤ 10000 ∧ e.readable.length ≤ 10000 ∧ g.payload.length ≤ 10000 then
    some (if posOf e.peerInitial g.seq e.expected < 0 then e else takeEarly (storeSeg n e g (if g.has 1 = true then posOf e.peerInitial g.seq e.expected + 1 else posOf e.peerInitial g.seq e.expected)))
  else none
def recvBody (n : MNet) (e : MEnd) (g : MSeg) : Option (MNet × MEnd) :=
  if g.size > 0 then (accept n e g).bind fun e2 => (sendAck n e2).bind fun n2 => output n2 e2 else output n e
def recvEstablished (n : MNet) (e : MEnd) (g : MSeg) : Option (MNet × MEnd) :=
  if g.has 8 = false then some (n, e)
  else if posOf e.initial g.confirmed e.acknowledged > e.next then (sendAck n e).bind fun n1 => some (n1, e)
  else if posOf e.initial g.confirmed e.acknowledged ≥ e.acknowledged then (recvConf n e g (posOf e.initial g.confirmed e.acknowledged)).bind fun r => recvBody r.1 r.2 g
  else recvBody n e g
def recvSynReceived (n : MNet) (e : MEnd) (g : MSeg) : Option (MNet × MEnd) :=
  if g.has 1 = true then (if g.has 8 = false then (match e.parts with
    | [] => none
    | p :: _ => (transmitPart n e p).bind fun n1 => some (n1, e)) else some (n, e))
  else if confirmsSyn e g = true then recvEstablished n { e with state := 4 } g else some (n, e)
def recv (n : MNet) (e : MEnd) (g : MSeg) : Option (MNet × MEnd) :=
  if g.has 4 = true then some (n, recvReset n e g)
  else if e.state = 0 ∨ e.state = 8 then some (n, e)
  else if e.state = 1 then recvListening n e g
  else if e.state = 2 then recvSynSent n e g
  else if e.state = 3 then recvSynReceived n e g
  else recvEstablished n e g

/-! ### the link -/
def MLink.at (l : MLink) (i : Bool) : MEnd := if i = true then l.b else l.a
def MLink.put (n : MNet) (o : MEnd) (i : Bool) (e : MEnd) : MLink := if i = true then ⟨n, o, e⟩ else ⟨n, e, o⟩
/-- f on one endpoint -/
def MLink.on (l : MLink) (i : Bool) (f : MNet → MEnd → Option (MNet × MEnd)) : Option MLink := (f l.n (l.at i)).bind fun r => some (MLink.put r.1 (l.at (!i)) i r.2)
def receive (l : MLink) (g : MSeg) : Option (MLink × Bool) :=
  if g.sender = 0 then (l.on true fun n e => recv n e g).bind fun l1 => some (l1, true)
  else if g.sender = 1 then (l.on false fun n e => recv n e g).bind fun l1 => some (l1, false)
  else none
def nextEnd (l : MLink) : Option Bool := match l.a.timer, l.b.timer with
  | none, none => none
  | some _, none => some false
  | none, some _ => some true
  | some t, some u => if u < t then some true else some false
def fire (l : MLink) (i : Bool) : Option MLink := match (l.at i).timer with
  | none => none
  | some t => l.on i fun n e => expire { n with now := pmax n.now t } e

/-! ### deeds -/
abbrev Ans := Option (MLink × List Int)
def ans (l : MLink) (r : List Int) : Ans := some (l, r)
def newEnd (n : MNet) (side ini : Int) : MEnd :=
  ⟨side, ini, if side = 0 then 0 else 1, 0, 0, [], [], false, false, 0, 0, [], [], -1, false, 0, 2 * n.size, n.buffer, n.timeout, none, 0, 0, false, 0, 0, 0, 0⟩
def fits : List Int → List (Int × Int) → Bool
  | x :: r, (lo, hi) :: s => if lo ≤ x ∧ x ≤ hi then fits r s else false
  | _, _ => true
def lims : List (Int × Int) := [(1, 20), (1, 200), (20, 10000), (1, 8), (0, 65535), (0, 65535)]
def madeLink : List Int → Option MLink
  | [m, b, t, k, i, j] => if fits [m, b, t, k, i, j] lims = true then some ⟨⟨m, b, t, k, [i, j], 0, [], 0, 0, 0⟩, newEnd ⟨m, b, t, k, [i, j], 0, [], 0, 0, 0⟩ 0 i, newEnd ⟨m, b, t, k, [i, j], 0, [], 0, 0, 0⟩ 1 j⟩ else none
  | _ => none
def connect (l : MLink) : Ans := if l.a.state ≠ 0 then ans l [-16] else (l.on false fun n e => sendPart n { e with state := 2 } 1 []).bind fun l1 => ans l1 [0]
def barred (e : MEnd) : Bool := decide (e.state = 0) || (decide (e.state = 1) || decide (e.state = 8))
def write (l : MLink) (i : Bool) (some_ : List Int) : Ans :=
  if (some_.any fun x => decide (255 < x)) = true then ans l [-22]
  else if (barred (l.at i) || (l.at i).closing) = true then ans l [-16]
  else if 0 ≤ l.n.buffer - (l.at i).held ∧ BdE (l.at i) ∧ some_.length ≤ 10000 then
    (l.on i fun n e => output n { e with unsent := e.unsent ++ some_.take (l.n.buffer - (l.at i).held).toNat, written := e.written + ((some_.take (l.n.buffer - (l.at i).held).toNat).length : Int) }).bind fun l1 =>
      ans l1 [((some_.take (l.n.buffer - (l.at i).held).toNat).length : Int)]
  else none
def readE (e : MEnd) (many : Int) : MEnd := { e with readable := e.readable.drop many.toNat, consumed := e.consumed + ((e.readable.take many.toNat).length : Int) }
def read (l : MLink) (i : Bool) (many : Int) : Ans :=
  if 0 ≤ many ∧ BdE (l.at i) then
    (l.on i fun n e => if win n e = 0 ∧ win n (readE e many) > 0 ∧ e.state = 4 then (sendAck n (readE e many)).bind fun n1 => some (n1, readE e many) else some (n, readE e many)).bind fun l1 =>
      ans l1 ((((l.at i).readable.take many.toNat).length : Int) :: (l.at i).readable.take many.toNat)
  else none
def close (l : MLink) (i : Bool) : Ans :=
  if (barred (l.at i) || (l.at i).closing) = true then ans l [-16] else (l.on i fun n e => output n { e with closing := true }).bind fun l1 => ans l1 [0]
def abort (l : MLink) (i : Bool) : Ans :=
  if barred (l.at i) = true then ans l [-16] else (l.on i fun n e => (transmit n e 4 e.next []).bind fun n1 => some (n1, e.failed)).bind fun l1 => ans l1 [0]
def segRow (g : MSeg) : List Int := [g.sender, g.flags, g.seq, (g.payload.length : Int)]
def listSegments (l : MLink) : Ans := if l.n.segs.length ≤ 10000 then ans l ((l.n.segs.length : Int) :: l.n.segs.flatMap segRow) else none
def showSegment (g : MSeg) : List Int := [g.sender, g.flags, g.seq, g.confirmed, g.window, (g.blocks.length : Int)] ++ (g.blocks.flatMap fun b => [b.1, b.2]) ++ g.payload
def deliver (l : MLink) (k : Nat) : Option (MLink × Int) := match l.n.segs[k]? with
  | none => none
  | some g => (receive { l with n := { l.n with segs := l.n.segs.eraseIdx k, delivered := l.n.delivered + 1 } } g).bind fun r => some (r.1, (r.1.at r.2).shown)
def drop (l : MLink) (k : Nat) : MLink := { l with n := { l.n with segs := l.n.segs.eraseIdx k, lost := l.n.lost + 1 } }
def copySegment (l : MLink) (k : Nat) : Option MLink := if (l.n.segs.length : Int) < 60 then (match l.n.segs[k]? with
  | none => none
  | some g => some { l with n := { l.n with segs := l.n.segs ++ [g] } }) else some l
def postpone (l : MLink) (k : Nat) : Option MLink := match l.n.segs[k]? with
  | none => none
  | some g => if l.n.segs.length ≤ 10000 then some { l with n := { l.n with segs := l.n.segs.eraseIdx k ++ [g] } } else none
def segmentDeed (l : MLink) (op index : Int) : Ans :=
  if index ≥ (l.n.segs.length : Int) then ans l [-2]
  else if index < 0 ∨ 10000 < l.n.segs.length then none
  else if op = 7 then (match l.n.segs[index.toNat]? with
    | none => none
    | some g => if g.payload.length ≤ 10000 ∧ g.blocks.length ≤ 10000 then ans l (showSegment g) else none)
  else if op = 8 then (deliver l index.toNat).bind fun r => ans r.1 [r.2]
  else if op = 10 ∧ (l.n.segs.length : Int) = 60 then ans l [-28]
  else if op = 9 then ans (drop l index.toNat) [((drop l index.toNat).n.segs.length : Int)]
  else if op = 10 then (copySegment l index.toNat).bind fun l1 => ans l1 [(l1.n.segs.length : Int)]
  else (postpone l index.toNat).bind fun l1 => ans l1 [(l1.n.segs.length : Int)]
def advLoop (stop : Int) : Nat → Int → MLink → Option (MLink × Int)
  | 0, fired, l => some (l, fired)
  | k + 1, fired, l => match nextEnd l with
    | none => some (l, fired)
    | some i => match (l.at i).timer with
      | none => none
      | some t => if t ≤ stop then (fire l i).bind fun l1 => advLoop stop k (fired + 1) l1 else some (l, fired)
def advance (l : MLink) (d : Int) : Ans :=
  if d > 100000 then ans l [-22]
  else (advLoop (l.n.now + d) 10000 0 l).bind fun r => ans { r.1 with n := { r.1.n with now := l.n.now + d } } [r.2, l.n.now + d]
def sideOf (i : Bool) : Int := if i = true then 1 else 0
def nextTimer (l : MLink) : Ans := match nextEnd l with
  | none => ans l [-33]
  | some i => match (l.at i).timer with
    | none => none
    | some t => ans l [t, (l.at i).side]
def fireTimer (l : MLink) : Ans := match nextEnd l with
  | none => ans l [-33]
  | some i => (fire l i).bind fun l1 => ans l1 [(l1.at i).side, l1.n.now]
def step (l : MLink) (fate : Int) : Option MLink :=
  if l.n.segs = [] then (fireTimer l).bind fun r => some r.1
  else if fate = 0 then (deliver l 0).bind fun r => some r.1
  else if fate = 1 then some (drop l 0)
  else if fate = 2 then (copySegment l 0).bind fun l1 => (deliver l1 0).bind fun r => some r.1
  else postpone l 0
def steps : List Int → MLink → Option MLink
  | [], l => some l
  | f :: r, l => (step l f).bind fun l1 => steps r l1
def run (l : MLink) (fates : List Int) : Ans :=
  if (fates.length : Int) > 64 ∨ (fates.any fun x => decide (3 < x)) = true then ans l [-22]
  else (steps fates l).bind fun l1 => ans l1 [(l1.n.segs.length : Int), l1.n.now]
def status (l : MLink) (i : Bool) : Ans := let e := l.at i; ans l [e.shown, (e.unsent.length : Int), e.inFlight, (e.readable.length : Int), (e.early.length : Int), win l.n e, e.peerWindow]
def congestion (l : MLink) (i : Bool) : Ans := let e := l.at i; ans l [e.congestion, e.threshold, e.timeout, e.duplicates, e.retrans, b2n e.measured, e.smoothed, e.variation]
def partRow (p : MPart) : List Int := [p.position, p.fin - p.position, p.transmissions, b2n p.marked]
def listOutstanding (l : MLink) (i : Bool) : Ans := let e := l.at i; if e.parts.length ≤ 10000 then ans l ((e.parts.length : Int) :: e.parts.flatMap partRow) else none
def showRanges (l : MLink) (i : Bool) : Ans := let e := l.at i; if e.early.length ≤ 10000 then ans l ((e.ranges.length : Int) :: e.ranges.flatMap fun r => [r.1, r.2]) else none
def totals (l : MLink) (i : Bool) : Ans := let e := l.at i; ans l [e.written, e.acknowledged, e.next, e.expected, e.consumed]
def statistics (l : MLink) : Ans := ans l [l.n.sent, l.n.delivered, l.n.lost, (l.n.segs.length : Int), l.n.now]

/-! ### calls -/
def nth0 (xs : List Int) (i : Nat) : Int := xs.getD i 0
def sideChange (l : MLink) (op : Int) (nums : List Int) (some_ : List Int) : Ans :=
  if nth0 nums 0 > 1 then ans l [-2]
  else if nth0 nums 0 < 0 then none
  else if op = 2 then write l (decide (nth0 nums 0 = 1)) some_
  else if op = 3 then read l (decide (nth0 nums 0 = 1)) (nth0 nums 1)
  else if op = 4 then close l (decide (nth0 nums 0 = 1)) else abort l (decide (nth0 nums 0 = 1))
def sideQuestion (l : MLink) (op side : Int) : Ans :=
  if side > 1 then ans l [-2]
  else if side < 0 then none
  else if op = 16 then status l (decide (side = 1))
  else if op = 17 then congestion l (decide (side = 1))
  else if op = 18 then listOutstanding l (decide (side = 1))
  else if op = 19 then showRanges l (decide (side = 1)) else totals l (decide (side = 1))
def clockDeed (l : MLink) (op : Int) (nums : List Int) (some_ : List Int) : Ans :=
  if op = 12 then advance l (nth0 nums 0)
  else if op = 13 then nextTimer l
  else if op = 14 then fireTimer l else run l some_
def deed (l : MLink) (op : Int) (nums : List Int) (some_ : List Int) : Ans :=
  if op = 1 then connect l
  else if 2 ≤ op ∧ op ≤ 5 then sideChange l op nums some_
  else if op = 6 then listSegments l
  else if 7 ≤ op ∧ op ≤ 11 then segmentDeed l op (nth0 nums 0)
  else if 12 ≤ op ∧ op ≤ 15 then clockDeed l op nums some_
  else if op = 21 then statistics l else sideQuestion l op (nth0 nums 0)
def cnts : List Int := [6, 0, 1, 2, 1, 1, 0, 1, 1, 1, 1, 1, 1, 0, 0, 0, 1, 1, 1, 1, 1, 0]
/-- one call: its numbers are as many as COUNTS tells, its row follows -/
def callM (st : Option MLink) (op : Int) (nums : List Int) (some_ : List Int) : Option (Option MLink × List Int) :=
  if op = 0 then (match madeLink nums with
    | none => some (st, [-22])
    | some l => some (some l, [0]))
  else match st with
    | none => some (none, [-11])
    | some l => (deed l op nums some_).bind fun r => some (some r.1, r.2)
/-- f: a bound of the turns -/
def answersM : Nat → Option MLink → List Int → Option (List Int)
  | _, _, [] => some []
  | 0, _, _ :: _ => none
  | f + 1, st, op :: r =>
    if 0 ≤ op ∧ op ≤ 21 then
      let c := (cnts.getD op.toNat 0).toNat
      let nums := r.take c
      let r1 := r.drop c
      if op = 2 ∨ op = 15 then (match r1 with
        | [] => none
        | k :: r2 => (callM st op nums (r2.take k.toNat)).bind fun x => (answersM f x.1 (r2.drop k.toNat)).bind fun y => some ((x.2.length : Int) :: x.2 ++ y))
      else (callM st op nums []).bind fun x => (answersM f x.1 r1).bind fun y => some ((x.2.length : Int) :: x.2 ++ y)
    else none
end Ws
set_option Elab.async false
set_option linter.all false
set_option maxRecDepth 100000
set_option maxHeartbeats 2000000
namespace Ws
open PySem PySem.Spec PyProof.Rows L2
/-! ### where things lie -/
structure ELay where
  un : Addr
  pts : Addr
  rd : Addr
  ea : Addr
  ps : List (Addr × MPart)
structure Lay where
  lk : Addr
  st : Addr
  ini : Addr
  ends : Addr
  segs : Addr
  a : Addr
  b : Addr
  i : Bool
  ss : List (Addr × MSeg)
  y : ELay
  z : ELay
def tV : Option Int → V
  | none => .non
  | some t => .int t

abbrev cG (K : PySem.W.Frag) : Addr := He.ga K "Segment"
abbrev cP (K : PySem.W.Frag) : Addr := He.ga K "Part"
abbrev cE (K : PySem.W.Frag) : Addr := He.ga K "Endpoint"
abbrev cS (K : PySem.W.Frag) : Addr := He.ga K "Settings"
abbrev cL (K : PySem.W.Frag) : Addr := He.ga K "Link"
def fG (g : MSeg) (pl bl : Addr) : List (Str × V) := [("sender", .int g.sender), ("flags", .int g.flags), ("sequence", .int g.seq), ("payload", .ref pl), ("window", .int g.window), ("confirmed", .int g.confirmed), ("blocks", .ref bl)]
def fP (p : MPart) (pl : Addr) : List (Str × V) := [("position", .int p.position), ("flag", .int p.flag), ("payload", .ref pl), ("sent_at", .int p.sentAt), ("transmissions", .int p.transmissions), ("marked", .bl p.marked)]
def fE (e : MEnd) (y : ELay) : List (Str × V) := [("side", .int e.side), ("initial", .int e.initial), ("state", .int e.state), ("acknowledged", .int e.acknowledged), ("next_position", .int e.next), ("unsent", .ref y.un), ("parts", .ref y.pts), ("closing", .bl e.closing), ("fin_sent", .bl e.finSent), ("peer_initial", .int e.peerInitial), ("expected", .int e.expected), ("readable", .ref y.rd), ("early", .ref y.ea), ("fin_position", .int e.finPos), ("fin_received", .bl e.finReceived), ("peer_window", .int e.peerWindow), ("congestion", .int e.congestion), ("threshold", .int e.threshold), ("timeout", .int e.timeout), ("timer", tV e.timer), ("duplicates", .int e.duplicates), ("retransmissions", .int e.retrans), ("measured", .bl e.measured), ("smoothed", .int e.smoothed), ("variation", .int e.variation), ("written", .int e.written), ("consumed", .int e.consumed)]
def fS (n : MNet) (ini : Addr) : List (Str × V) := [("segment_size", .int n.size), ("buffer", .int n.buffer), ("timeout", .int n.timeout), ("attempts", .int n.attempts), ("initials", .ref ini)]
def fL (n : MNet) (L : Lay) : List (Str × V) := [("settings", .ref L.st), ("now", .int n.now), ("ends", .ref L.ends), ("segments", .ref L.segs), ("sent", .int n.sent), ("delivered", .int n.delivered), ("lost", .int n.lost)]
/-- what the top has written of the classes -/
structure TxC (K : PySem.W.Frag) : Prop where
  clG : Cls K (cG K)
  clP : Cls K (cP K)
  clE : Cls K (cE K)
  clS : Cls K (cS K)
  clL : Cls K (cL K)
  nG_sender : NoAttr K (cG K) "sender"
  nG_flags : NoAttr K (cG K) "flags"
  nG_sequence : NoAttr K (cG K) "sequence"
  nG_payload : NoAttr K (cG K) "payload"
  nG_window : NoAttr K (cG K) "window"
  nG_confirmed : NoAttr K (cG K) "confirmed"
  nG_blocks : NoAttr K (cG K) "blocks"
  nP_position : NoAttr K (cP K) "position"
  nP_flag : NoAttr K (cP K) "flag"
  nP_payload : NoAttr K (cP K) "payload"
  nP_sent_at : NoAttr K (cP K) "sent_at"
  nP_transmissions : NoAttr K (cP K) "transmissions"
  nP_marked : NoAttr K (cP K) "marked"
  nE_side : NoAttr K (cE K) "side"
  nE_initial : NoAttr K (cE K) "initial"
  nE_state : NoAttr K (cE K) "state"
  nE_acknowledged : NoAttr K (cE K) "acknowledged"
  nE_next_position : NoAttr K (cE K) "next_position"
  nE_unsent : NoAttr K (cE K) "unsent"
  nE_parts : NoAttr K (cE K) "parts"
  nE_closing : NoAttr K (cE K) "closing"
  nE_fin_sent : NoAttr K (cE K) "fin_sent"
  nE_peer_initial : NoAttr K (cE K) "peer_initial"
  nE_expected : NoAttr K (cE K) "expected"
  nE_readable : NoAttr K (cE K) "readable"
  nE_early : NoAttr K (cE K) "early"
  nE_fin_position : NoAttr K (cE K) "fin_position"
  nE_fin_received : NoAttr K (cE K) "fin_received"
  nE_peer_window : NoAttr K (cE K) "peer_window"
  nE_congestion : NoAttr K (cE K) "congestion"
  nE_threshold : NoAttr K (cE K) "threshold"
  nE_timeout : NoAttr K (cE K) "timeout"
  nE_timer : NoAttr K (cE K) "timer"
  nE_duplicates : NoAttr K (cE K) "duplicates"
  nE_retransmissions : NoAttr K (cE K) "retransmissions"
  nE_measured : NoAttr K (cE K) "measured"
  nE_smoothed : NoAttr K (cE K) "smoothed"
  nE_variation : NoAttr K (cE K) "variation"
  nE_written : NoAttr K (cE K) "written"
  nE_consumed : NoAttr K (cE K) "consumed"
  nS_segment_size : NoAttr K (cS K) "segment_size"
  nS_buffer : NoAttr K (cS K) "buffer"
  nS_timeout : NoAttr K (cS K) "timeout"
  nS_attempts : NoAttr K (cS K) "attempts"
  nS_initials : NoAttr K (cS K) "initials"
  nL_settings : NoAttr K (cL K) "settings"
  nL_now : NoAttr K (cL K) "now"
  nL_ends : NoAttr K (cL K) "ends"
  nL_segments : NoAttr K (cL K) "segments"
  nL_sent : NoAttr K (cL K) "sent"
  nL_delivered : NoAttr K (cL K) "delivered"
  nL_lost : NoAttr K (cL K) "lost"
section
variable {K : PySem.W.Frag} {H : Hp} {a dx : Addr}
theorem lkG_sender {g : MSeg} {pl bl : Addr} : (fG g pl bl).lookup ("sender" : Str) = some (.int g.sender) := by kernel_rfl
/-- e.sender is read -/
theorem gG_sender (tx : TxC K) {g : MSeg} {pl bl : Addr} (h : H a = some (.ins (cG K) dx (fG g pl bl))) {Q : VK} (q : Q (.int g.sender) H) : ∃ a1 C dx fs v, V.ref a = .ref a1 ∧ H a1 = some (.ins C dx fs) ∧ Cls K C ∧ NoAttr K C "sender" ∧ fs.lookup ("sender" : Str) = some v ∧ Q v H := ⟨a, cG K, dx, _, _, rfl, h, tx.clG, tx.nG_sender, lkG_sender, q⟩
theorem lkG_flags {g : MSeg} {pl bl : Addr} : (fG g pl bl).lookup ("flags" : Str) = some (.int g.flags) := by kernel_rfl
/-- e.flags is read -/
theorem gG_flags (tx : TxC K) {g : MSeg} {pl bl : Addr} (h : H a = some (.ins (cG K) dx (fG g pl bl))) {Q : VK} (q : Q (.int g.flags) H) : ∃ a1 C dx fs v, V.ref a = .ref a1 ∧ H a1 = some (.ins C dx fs) ∧ Cls K C ∧ NoAttr K C "flags" ∧ fs.lookup ("flags" : Str) = some v ∧ Q v H := ⟨a, cG K, dx, _, _, rfl, h, tx.clG, tx.nG_flags, lkG_flags, q⟩
theorem lkG_sequence {g : MSeg} {pl bl : Addr} : (fG g pl bl).lookup ("sequence" : Str) = some (.int g.seq) := by kernel_rfl
/-- e.sequence is read -/
theorem gG_sequence (tx : TxC K) {g : MSeg} {pl bl : Addr} (h : H a = some (.ins (cG K) dx (fG g pl bl))) {Q : VK} (q : Q (.int g.seq) H) : ∃ a1 C dx fs v, V.ref a = .ref a1 ∧ H a1 = some (.ins C dx fs) ∧ Cls K C ∧ NoAttr K C "sequence" ∧ fs.lookup ("sequence" : Str) = some v ∧ Q v H := ⟨a, cG K, dx, _, _, rfl, h, tx.clG, tx.nG_sequence, lkG_sequence, q⟩
theorem lkG_payload {g : MSeg} {pl bl : Addr} : (fG g pl bl).lookup ("payload" : Str) = some (.ref pl) := by kernel_rfl
/-- e.payload is read -/
theorem gG_payload (tx : TxC K) {g : MSeg} {pl bl : Addr} (h : H a = some (.ins (cG K) dx (fG g pl bl))) {Q : VK} (q : Q (.ref pl) H) : ∃ a1 C dx fs v, V.ref a = .ref a1 ∧ H a1 = some (.ins C dx fs) ∧ Cls K C ∧ NoAttr K C "payload" ∧ fs.lookup ("payload" : Str) = some v ∧ Q v H := ⟨a, cG K, dx, _, _, rfl, h, tx.clG, tx.nG_payload, lkG_payload, q⟩
theorem lkG_window {g : MSeg} {pl bl : Addr} : (fG g pl bl).lookup ("window" : Str) = some (.int g.window) := by kernel_rfl
/-- e.window is read -/
theorem gG_window (tx : TxC K) {g : MSeg} {pl bl : Addr} (h : H a = some (.ins (cG K) dx (fG g pl bl))) {Q : VK} (q : Q (.int g.window) H) : ∃ a1 C dx fs v, V.ref a = .ref a1 ∧ H a1 = some (.ins C dx fs) ∧ Cls K C ∧ NoAttr K C "window" ∧ fs.lookup ("window" : Str) = some v ∧ Q v H := ⟨a, cG K, dx, _, _, rfl, h, tx.clG, tx.nG_window, lkG_window, q⟩
theorem lkG_confirmed {g : MSeg} {pl bl : Addr} : (fG g pl bl).lookup ("confirmed" : Str) = some (.int g.confirmed) := by kernel_rfl
/-- e.confirmed is read -/
theorem gG_confirmed (tx : TxC K) {g : MSeg} {pl bl : Addr} (h : H a = some (.ins (cG K) dx (fG g pl bl))) {Q : VK} (q : Q (.int g.confirmed) H) : ∃ a1 C dx fs v, V.ref a = .ref a1 ∧ H a1 = some (.ins C dx fs) ∧ Cls K C ∧ NoAttr K C "confirmed" ∧ fs.lookup ("confirmed" : Str) = some v ∧ Q v H := ⟨a, cG K, dx, _, _, rfl, h, tx.clG, tx.nG_confirmed, lkG_confirmed, q⟩
theorem lkG_blocks {g : MSeg} {pl bl : Addr} : (fG g pl bl).lookup ("blocks" : Str) = some (.ref bl) := by kernel_rfl
/-- e.blocks is read -/
theorem gG_blocks (tx : TxC K) {g : MSeg} {pl bl : Addr} (h : H a = some (.ins (cG K) dx (fG g pl bl))) {Q : VK} (q : Q (.ref bl) H) : ∃ a1 C dx fs v, V.ref a = .ref a1 ∧ H a1 = some (.ins C dx fs) ∧ Cls K C ∧ NoAttr K C "blocks" ∧ fs.lookup ("blocks" : Str) = some v ∧ Q v H := ⟨a, cG K, dx, _, _, rfl, h, tx.clG, tx.nG_blocks, lkG_blocks, q⟩
/-- how many attributes -/
theorem lenG {g : MSeg} {pl bl : Addr} : (fG g pl bl).length = 7 := rfl
theorem lnG {g : MSeg} {pl bl : Addr} : (fG g pl bl).length < 1000 := by show 7 < 1000; decide
theorem ptG_sender {g : MSeg} {pl bl : Addr} (x : Int) : putF "sender" (.int x) (fG g pl bl) = fG { g with sender := x } pl bl := by kernel_rfl
theorem ptG_flags {g : MSeg} {pl bl : Addr} (x : Int) : putF "flags" (.int x) (fG g pl bl) = fG { g with flags := x } pl bl := by kernel_rfl
theorem ptG_sequence {g : MSeg} {pl bl : Addr} (x : Int) : putF "sequence" (.int x) (fG g pl bl) = fG { g with seq := x } pl bl := by kernel_rfl
theorem ptG_payload {g : MSeg} {pl bl : Addr} (x : Addr) : putF "payload" (.ref x) (fG g pl bl) = fG g x bl := by kernel_rfl
theorem ptG_window {g : MSeg} {pl bl : Addr} (x : Int) : putF "window" (.int x) (fG g pl bl) = fG { g with window := x } pl bl := by kernel_rfl
theorem ptG_confirmed {g : MSeg} {pl bl : Addr} (x : Int) : putF "confirmed" (.int x) (fG g pl bl) = fG { g with confirmed := x } pl bl := by kernel_rfl
theorem ptG_blocks {g : MSeg} {pl bl : Addr} (x : Addr) : putF "blocks" (.ref x) (fG g pl bl) = fG g pl x := by kernel_rfl
theorem lkP_position {p : MPart} {pl : Addr} : (fP p pl).lookup ("position" : Str) = some (.int p.position) := by kernel_rfl
/-- e.position is read -/
theorem gP_position (tx : TxC K) {p : MPart} {pl : Addr} (h : H a = some (.ins (cP K) dx (fP p pl))) {Q : VK} (q : Q (.int p.position) H) : ∃ a1 C dx fs v, V.ref a = .ref a1 ∧ H a1 = some (.ins C dx fs) ∧ Cls K C ∧ NoAttr K C "position" ∧ fs.lookup ("position" : Str) = some v ∧ Q v H := ⟨a, cP K, dx, _, _, rfl, h, tx.clP, tx.nP_position, lkP_position, q⟩
theorem lkP_flag {p : MPart} {pl : Addr} : (fP p pl).lookup ("flag" : Str) = some (.int p.flag) := by kernel_rfl
/-- e.flag is read -/
theorem gP_flag (tx : TxC K) {p : MPart} {pl : Addr} (h : H a = some (.ins (cP K) dx (fP p pl))) {Q : VK} (q : Q (.int p.flag) H) : ∃ a1 C dx fs v, V.ref a = .ref a1 ∧ H a1 = some (.ins C dx fs) ∧ Cls K C ∧ NoAttr K C "flag" ∧ fs.lookup ("flag" : Str) = some v ∧ Q v H := ⟨a, cP K, dx, _, _, rfl, h, tx.clP, tx.nP_flag, lkP_flag, q⟩
theorem lkP_payload {p : MPart} {pl : Addr} : (fP p pl).lookup ("payload" : Str) = some (.ref pl) := by kernel_rfl
/-- e.payload is read -/
theorem gP_payload (tx : TxC K) {p : MPart} {pl : Addr} (h : H a = some (.ins (cP K) dx (fP p pl))) {Q : VK} (q : Q (.ref pl) H) : ∃ a1 C dx fs v, V.ref a = .ref a1 ∧ H a1 = some (.ins C dx fs) ∧ Cls K C ∧ NoAttr K C "payload" ∧ fs.lookup ("payload" : Str) = some v ∧ Q v H := ⟨a, cP K, dx, _, _, rfl, h, tx.clP, tx.nP_payload, lkP_payload, q⟩
theorem lkP_sent_at {p : MPart} {pl : Addr} : (fP p pl).lookup ("sent_at" : Str) = some (.int p.sentAt) := by kernel_rfl
/-- e.sent_at is read -/
theorem gP_sent_at (tx : TxC K) {p : MPart} {pl : Addr} (h : H a = some (.ins (cP K) dx (fP p pl))) {Q : VK} (q : Q (.int p.sentAt) H) : ∃ a1 C dx fs v, V.ref a = .ref a1 ∧ H a1 = some (.ins C dx fs) ∧ Cls K C ∧ NoAttr K C "sent_at" ∧ fs.lookup ("sent_at" : Str) = some v ∧ Q v H := ⟨a, cP K, dx, _, _, rfl, h, tx.clP, tx.nP_sent_at, lkP_sent_at, q⟩
theorem lkP_transmissions {p : MPart} {pl : Addr} : (fP p pl).lookup ("transmissions" : Str) = some (.int p.transmissions) := by kernel_rfl
/-- e.transmissions is read -/
theorem gP_transmissions (tx : TxC K) {p : MPart} {pl : Addr} (h : H a = some (.ins (cP K) dx (fP p pl))) {Q : VK} (q : Q (.int p.transmissions) H) : ∃ a1 C dx fs v, V.ref a = .ref a1 ∧ H a1 = some (.ins C dx fs) ∧ Cls K C ∧ NoAttr K C "transmissions" ∧ fs.lookup ("transmissions" : Str) = some v ∧ Q v H := ⟨a, cP K, dx, _, _, rfl, h, tx.clP, tx.nP_transmissions, lkP_transmissions, q⟩
theorem lkP_marked {p : MPart} {pl : Addr} : (fP p pl).lookup ("marked" : Str) = some (.bl p.marked) := by kernel_rfl
/-- e.marked is read -/
theorem gP_marked (tx : TxC K) {p : MPart} {pl : Addr} (h : H a = some (.ins (cP K) dx (fP p pl))) {Q : VK} (q : Q (.bl p.marked) H) : ∃ a1 C dx fs v, V.ref a = .ref a1 ∧ H a1 = some (.ins C dx fs) ∧ Cls K C ∧ NoAttr K C "marked" ∧ fs.lookup ("marked" : Str) = some v ∧ Q v H := ⟨a, cP K, dx, _, _, rfl, h, tx.clP, tx.nP_marked, lkP_marked, q⟩
/-- how many attributes -/
theorem lenP {p : MPart} {pl : Addr} : (fP p pl).length = 6 := rfl
theorem lnP {p : MPart} {pl : Addr} : (fP p pl).length < 1000 := by show 6 < 1000; decide
theorem ptP_position {p : MPart} {pl : Addr} (x : Int) : putF "position" (.int x) (fP p pl) = fP { p with position := x } pl := by kernel_rfl
theorem ptP_flag {p : MPart} {pl : Addr} (x : Int) : putF "flag" (.int x) (fP p pl) = fP { p with flag := x } pl := by kernel_rfl
theorem ptP_payload {p : MPart} {pl : Addr} (x : Addr) : putF "payload" (.ref x) (fP p pl) = fP p x := by kernel_rfl
theorem ptP_sent_at {p : MPart} {pl : Addr} (x : Int) : putF "sent_at" (.int x) (fP p pl) = fP { p with sentAt := x } pl := by kernel_rfl
theorem ptP_transmissions {p : MPart} {pl : Addr} (x : Int) : putF "transmissions" (.int x) (fP p pl) = fP { p with transmissions := x } pl := by kernel_rfl
theorem ptP_marked {p : MPart} {pl : Addr} (x : Bool) : putF "marked" (.bl x) (fP p pl) = fP { p with marked := x } pl := by kernel_rfl
theorem lkE_side {e : MEnd} {y : ELay} : (fE e y).lookup ("side" : Str) = some (.int e.side) := by kernel_rfl
/-- e.side is read -/
theorem gE_side (tx : TxC K) {e : MEnd} {y : ELay} (h : H a = some (.ins (cE K) dx (fE e y))) {Q : VK} (q : Q (.int e.side) H) : ∃ a1 C dx fs v, V.ref a = .ref a1 ∧ H a1 = some (.ins C dx fs) ∧ Cls K C ∧ NoAttr K C "side" ∧ fs.lookup ("side" : Str) = some v ∧ Q v H := ⟨a, cE K, dx, _, _, rfl, h, tx.clE, tx.nE_side, lkE_side, q⟩
theorem lkE_initial {e : MEnd} {y : ELay} : (fE e y).lookup ("initial" : Str) = some (.int e.initial) := by kernel_rfl
/-- e.initial is read -/
theorem gE_initial (tx : TxC K) {e : MEnd} {y : ELay} (h : H a = some (.ins (cE K) dx (fE e y))) {Q : VK} (q : Q (.int e.initial) H) : ∃ a1 C dx fs v, V.ref a = .ref a1 ∧ H a1 = some (.ins C dx fs) ∧ Cls K C ∧ NoAttr K C "initial" ∧ fs.lookup ("initial" : Str) = some v ∧ Q v H := ⟨a, cE K, dx, _, _, rfl, h, tx.clE, tx.nE_initial, lkE_initial, q⟩
theorem lkE_state {e : MEnd} {y : ELay} : (fE e y).lookup ("state" : Str) = some (.int e.state) := by kernel_rfl
/-- e.state is read -/
theorem gE_state (tx : TxC K) {e : MEnd} {y : ELay} (h : H a = some (.ins (cE K) dx (fE e y))) {Q : VK} (q : Q (.int e.state) H) : ∃ a1 C dx fs v, V.ref a = .ref a1 ∧ H a1 = some (.ins C dx fs) ∧ Cls K C ∧ NoAttr K C "state" ∧ fs.lookup ("state" : Str) = some v ∧ Q v H := ⟨a, cE K, dx, _, _, rfl, h, tx.clE, tx.nE_state, lkE_state, q⟩
theorem lkE_acknowledged {e : MEnd} {y : ELay} : (fE e y).lookup ("acknowledged" : Str) = some (.int e.acknowledged) := by kernel_rfl
/-- e.acknowledged is read -/
theorem gE_acknowledged (tx : TxC K) {e : MEnd} {y : ELay} (h : H a = some (.ins (cE K) dx (fE e y))) {Q : VK} (q : Q (.int e.acknowledged) H) : ∃ a1 C dx fs v, V.ref a = .ref a1 ∧ H a1 = some (.ins C dx fs) ∧ Cls K C ∧ NoAttr K C "acknowledged" ∧ fs.lookup ("acknowledged" : Str) = some v ∧ Q v H := ⟨a, cE K, dx, _, _, rfl, h, tx.clE, tx.nE_acknowledged, lkE_acknowledged, q⟩
theorem lkE_next_position {e : MEnd} {y : ELay} : (fE e y).lookup ("next_position" : Str) = some (.int e.next) := by kernel_rfl
/-- e.next_position is read -/
theorem gE_next_position (tx : TxC K) {e : MEnd} {y : ELay} (h : H a = some (.ins (cE K) dx (fE e y))) {Q : VK} (q : Q (.int e.next) H) : ∃ a1 C dx fs v, V.ref a = .ref a1 ∧ H a1 = some (.ins C dx fs) ∧ Cls K C ∧ NoAttr K C "next_position" ∧ fs.lookup ("next_position" : Str) = some v ∧ Q v H := ⟨a, cE K, dx, _, _, rfl, h, tx.clE, tx.nE_next_position, lkE_next_position, q⟩
theorem lkE_unsent {e : MEnd} {y : ELay} : (fE e y).lookup ("unsent" : Str) = some (.ref y.un) := by kernel_rfl
/-- e.unsent is read -/
theorem gE_unsent (tx : TxC K) {e : MEnd} {y : ELay} (h : H a = some (.ins (cE K) dx (fE e y))) {Q : VK} (q : Q (.ref y.un) H) : ∃ a1 C dx fs v, V.ref a = .ref a1 ∧ H a1 = some (.ins C dx fs) ∧ Cls K C ∧ NoAttr K C "unsent" ∧ fs.lookup ("unsent" : Str) = some v ∧ Q v H := ⟨a, cE K, dx, _, _, rfl, h, tx.clE, tx.nE_unsent, lkE_unsent, q⟩
theorem lkE_parts {e : MEnd} {y : ELay} : (fE e y).lookup ("parts" : Str) = some (.ref y.pts) := by kernel_rfl
/-- e.parts is read -/
theorem gE_parts (tx : TxC K) {e : MEnd} {y : ELay} (h : H a = some (.ins (cE K) dx (fE e y))) {Q : VK} (q : Q (.ref y.pts) H) : ∃ a1 C dx fs v, V.ref a = .ref a1 ∧ H a1 = some (.ins C dx fs) ∧ Cls K C ∧ NoAttr K C "parts" ∧ fs.lookup ("parts" : Str) = some v ∧ Q v H := ⟨a, cE K, dx, _, _, rfl, h, tx.clE, tx.nE_parts, lkE_parts, q⟩
theorem lkE_closing {e : MEnd} {y : ELay} : (fE e y).lookup ("closing" : Str) = some (.bl e.closing) := by kernel_rfl
/-- e.closing is read -/
theorem gE_closing (tx : TxC K) {e : MEnd} {y : ELay} (h : H a = some (.ins (cE K) dx (fE e y))) {Q : VK} (q : Q (.bl e.closing) H) : ∃ a1 C dx fs v, V.ref a = .ref a1 ∧ H a1 = some (.ins C dx fs) ∧ Cls K C ∧ NoAttr K C "closing" ∧ fs.lookup ("closing" : Str) = some v ∧ Q v H := ⟨a, cE K, dx, _, _, rfl, h, tx.clE, tx.nE_closing, lkE_closing, q⟩
theorem lkE_fin_sent {e : MEnd} {y : ELay} : (fE e y).lookup ("fin_sent" : Str) = some (.bl e.finSent) := by kernel_rfl
/-- e.fin_sent is read -/
theorem gE_fin_sent (tx : TxC K) {e : MEnd} {y : ELay} (h : H a = some (.ins (cE K) dx (fE e y))) {Q : VK} (q : Q (.bl e.finSent) H) : ∃ a1 C dx fs v, V.ref a = .ref a1 ∧ H a1 = some (.ins C dx fs) ∧ Cls K C ∧ NoAttr K C "fin_sent" ∧ fs.lookup ("fin_sent" : Str) = some v ∧ Q v H := ⟨a, cE K, dx, _, _, rfl, h, tx.clE, tx.nE_fin_sent, lkE_fin_sent, q⟩
theorem lkE_peer_initial {e : MEnd} {y : ELay} : (fE e y).lookup ("peer_initial" : Str) = some (.int e.peerInitial) := by kernel_rfl
/-- e.peer_initial is read -/
theorem gE_peer_initial (tx : TxC K) {e : MEnd} {y : ELay} (h : H a = some (.ins (cE K) dx (fE e y))) {Q : VK} (q : Q (.int e.peerInitial) H) : ∃ a1 C dx fs v, V.ref a = .ref a1 ∧ H a1 = some (.ins C dx fs) ∧ Cls K C ∧ NoAttr K C "peer_initial" ∧ fs.lookup ("peer_initial" : Str) = some v ∧ Q v H := ⟨a, cE K, dx, _, _, rfl, h, tx.clE, tx.nE_peer_initial, lkE_peer_initial, q⟩
theorem lkE_expected {e : MEnd} {y : ELay} : (fE e y).lookup ("expected" : Str) = some (.int e.expected) := by kernel_rfl
/-- e.expected is read -/
theorem gE_expected (tx : TxC K) {e : MEnd} {y : ELay} (h : H a = some (.ins (cE K) dx (fE e y))) {Q : VK} (q : Q (.int e.expected) H) : ∃ a1 C dx fs v, V.ref a = .ref a1 ∧ H a1 = some (.ins C dx fs) ∧ Cls K C ∧ NoAttr K C "expected" ∧ fs.lookup ("expected" : Str) = some v ∧ Q v H := ⟨a, cE K, dx, _, _, rfl, h, tx.clE, tx.nE_expected, lkE_expected, q⟩
theorem lkE_readable {e : MEnd} {y : ELay} : (fE e y).lookup ("readable" : Str) = some (.ref y.rd) := by kernel_rfl
/-- e.readable is read -/
theorem gE_readable (tx : TxC K) {e : MEnd} {y : ELay} (h : H a = some (.ins (cE K) dx (fE e y))) {Q : VK} (q : Q (.ref y.rd) H) : ∃ a1 C dx fs v, V.ref a = .ref a1 ∧ H a1 = some (.ins C dx fs) ∧ Cls K C ∧ NoAttr K C "readable" ∧ fs.lookup ("readable" : Str) = some v ∧ Q v H := ⟨a, cE K, dx, _, _, rfl, h, tx.clE, tx.nE_readable, lkE_readable, q⟩
theorem lkE_early {e : MEnd} {y : ELay} : (fE e y).lookup ("early" : Str) = some (.ref y.ea) := by kernel_rfl
/-- e.early is read -/
theorem gE_early (tx : TxC K) {e : MEnd} {y : ELay} (h : H a = some (.ins (cE K) dx (fE e y))) {Q : VK} (q : Q (.ref y.ea) H) : ∃ a1 C dx fs v, V.ref a = .ref a1 ∧ H a1 = some (.ins C dx fs) ∧ Cls K C ∧ NoAttr K C "early" ∧ fs.lookup ("early" : Str) = some v ∧ Q v H := ⟨a, cE K, dx, _, _, rfl, h, tx.clE, tx.nE_early, lkE_early, q⟩
theorem lkE_fin_position {e : MEnd} {y : ELay} : (fE e y).lookup ("fin_position" : Str) = some (.int e.finPos) := by kernel_rfl
/-- e.fin_position is read -/
theorem gE_fin_position (tx : TxC K) {e : MEnd} {y : ELay} (h : H a = some (.ins (cE K) dx (fE e y))) {Q : VK} (q : Q (.int e.finPos) H) : ∃ a1 C dx fs v, V.ref a = .ref a1 ∧ H a1 = some (.ins C dx fs) ∧ Cls K C ∧ NoAttr K C "fin_position" ∧ fs.lookup ("fin_position" : Str) = some v ∧ Q v H := ⟨a, cE K, dx, _, _, rfl, h, tx.clE, tx.nE_fin_position, lkE_fin_position, q⟩
theorem lkE_fin_received {e : MEnd} {y : ELay} : (fE e y).lookup ("fin_received" : Str) = some (.bl e.finReceived) := by kernel_rfl
/-- e.fin_received is read -/
theorem gE_fin_received (tx : TxC K) {e : MEnd} {y : ELay} (h : H a = some (.ins (cE K) dx (fE e y))) {Q : VK} (q : Q (.bl e.finReceived) H) : ∃ a1 C dx fs v, V.ref a = .ref a1 ∧ H a1 = some (.ins C dx fs) ∧ Cls K C ∧ NoAttr K C "fin_received" ∧ fs.lookup ("fin_received" : Str) = some v ∧ Q v H := ⟨a, cE K, dx, _, _, rfl, h, tx.clE, tx.nE_fin_received, lkE_fin_received, q⟩
theorem lkE_peer_window {e : MEnd} {y : ELay} : (fE e y).lookup ("peer_window" : Str) = some (.int e.peerWindow) := by kernel_rfl
/-- e.peer_window is read -/
theorem gE_peer_window (tx : TxC K) {e : MEnd} {y : ELay} (h : H a = some (.ins (cE K) dx (fE e y))) {Q : VK} (q : Q (.int e.peerWindow) H) : ∃ a1 C dx fs v, V.ref a = .ref a1 ∧ H a1 = some (.ins C dx fs) ∧ Cls K C ∧ NoAttr K C "peer_window" ∧ fs.lookup ("peer_window" : Str) = some v ∧ Q v H := ⟨a, cE K, dx, _, _, rfl, h, tx.clE, tx.nE_peer_window, lkE_peer_window, q⟩
theorem lkE_congestion {e : MEnd} {y : ELay} : (fE e y).lookup ("congestion" : Str) = some (.int e.congestion) := by kernel_rfl
/-- e.congestion is read -/
theorem gE_congestion (tx : TxC K) {e : MEnd} {y : ELay} (h : H a = some (.ins (cE K) dx (fE e y))) {Q : VK} (q : Q (.int e.congestion) H) : ∃ a1 C dx fs v, V.ref a = .ref a1 ∧ H a1 = some (.ins C dx fs) ∧ Cls K C ∧ NoAttr K C "congestion" ∧ fs.lookup ("congestion" : Str) = some v ∧ Q v H := ⟨a, cE K, dx, _, _, rfl, h, tx.clE, tx.nE_congestion, lkE_congestion, q⟩
theorem lkE_threshold {e : MEnd} {y : ELay} : (fE e y).lookup ("threshold" : Str) = some (.int e.threshold) := by kernel_rfl
/-- e.threshold is read -/
theorem gE_threshold (tx : TxC K) {e : MEnd} {y : ELay} (h : H a = some (.ins (cE K) dx (fE e y))) {Q : VK} (q : Q (.int e.threshold) H) : ∃ a1 C dx fs v, V.ref a = .ref a1 ∧ H a1 = some (.ins C dx fs) ∧ Cls K C ∧ NoAttr K C "threshold" ∧ fs.lookup ("threshold" : Str) = some v ∧ Q v H := ⟨a, cE K, dx, _, _, rfl, h, tx.clE, tx.nE_threshold, lkE_threshold, q⟩
theorem lkE_timeout {e : MEnd} {y : ELay} : (fE e y).lookup ("timeout" : Str) = some (.int e.timeout) := by kernel_rfl
/-- e.timeout is read -/
theorem gE_timeout (tx : TxC K) {e : MEnd} {y : ELay} (h : H a = some (.ins (cE K) dx (fE e y))) {Q : VK} (q : Q (.int e.timeout) H) : ∃ a1 C dx fs v, V.ref a = .ref a1 ∧ H a1 = some (.ins C dx fs) ∧ Cls K C ∧ NoAttr K C "timeout" ∧ fs.lookup ("timeout" : Str) = some v ∧ Q v H := ⟨a, cE K, dx, _, _, rfl, h, tx.clE, tx.nE_timeout, lkE_timeout, q⟩
theorem lkE_timer {e : MEnd} {y : ELay} : (fE e y).lookup ("timer" : Str) = some (tV e.timer) := by kernel_rfl
/-- e.timer is read -/
theorem gE_timer (tx : TxC K) {e : MEnd} {y : ELay} (h : H a = some (.ins (cE K) dx (fE e y))) {Q : VK} (q : Q (tV e.timer) H) : ∃ a1 C dx fs v, V.ref a = .ref a1 ∧ H a1 = some (.ins C dx fs) ∧ Cls K C ∧ NoAttr K C "timer" ∧ fs.lookup ("timer" : Str) = some v ∧ Q v H := ⟨a, cE K, dx, _, _, rfl, h, tx.clE, tx.nE_timer, lkE_timer, q⟩
theorem lkE_duplicates {e : MEnd} {y : ELay} : (fE e y).lookup ("duplicates" : Str) = some (.int e.duplicates) := by kernel_rfl
/-- e.duplicates is read -/
theorem gE_duplicates (tx : TxC K) {e : MEnd} {y : ELay} (h : H a = some (.ins (cE K) dx (fE e y))) {Q : VK} (q : Q (.int e.duplicates) H) : ∃ a1 C dx fs v, V.ref a = .ref a1 ∧ H a1 = some (.ins C dx fs) ∧ Cls K C ∧ NoAttr K C "duplicates" ∧ fs.lookup ("duplicates" : Str) = some v ∧ Q v H := ⟨a, cE K, dx, _, _, rfl, h, tx.clE, tx.nE_duplicates, lkE_duplicates, q⟩
theorem lkE_retransmissions {e : MEnd} {y : ELay} : (fE e y).lookup ("retransmissions" : Str) = some (.int e.retrans) := by kernel_rfl
/-- e.retransmissions is read -/
theorem gE_retransmissions (tx : TxC K) {e : MEnd} {y : ELay} (h : H a = some (.ins (cE K) dx (fE e y))) {Q : VK} (q : Q (.int e.retrans) H) : ∃ a1 C dx fs v, V.ref a = .ref a1 ∧ H a1 = some (.ins C dx fs) ∧ Cls K C ∧ NoAttr K C "retransmissions" ∧ fs.lookup ("retransmissions" : Str) = some v ∧ Q v H := ⟨a, cE K, dx, _, _, rfl, h, tx.clE, tx.nE_retransmissions, lkE_retransmissions, q⟩
theorem lkE_measured {e : MEnd} {y : ELay} : (fE e y).lookup ("measured" : Str) = some (.bl e.measured) := by kernel_rfl
/-- e.measured is read -/
theorem gE_measured (tx : TxC K) {e : MEnd} {y : ELay} (h : H a = some (.ins (cE K) dx (fE e y))) {Q : VK} (q : Q (.bl e.measured) H) : ∃ a1 C dx fs v, V.ref a = .ref a1 ∧ H a1 = some (.ins C dx fs) ∧ Cls K C ∧ NoAttr K C "measured" ∧ fs.lookup ("measured" : Str) = some v ∧ Q v H := ⟨a, cE K, dx, _, _, rfl, h, tx.clE, tx.nE_measured, lkE_measured, q⟩
theorem lkE_smoothed {e : MEnd} {y : ELay} : (fE e y).lookup ("smoothed" : Str) = some (.int e.smoothed) := by kernel_rfl
/-- e.smoothed is read -/
theorem gE_smoothed (tx : TxC K) {e : MEnd} {y : ELay} (h : H a = some (.ins (cE K) dx (fE e y))) {Q : VK} (q : Q (.int e.smoothed) H) : ∃ a1 C dx fs v, V.ref a = .ref a1 ∧ H a1 = some (.ins C dx fs) ∧ Cls K C ∧ NoAttr K C "smoothed" ∧ fs.lookup ("smoothed" : Str) = some v ∧ Q v H := ⟨a, cE K, dx, _, _, rfl, h, tx.clE, tx.nE_smoothed, lkE_smoothed, q⟩
theorem lkE_variation {e : MEnd} {y : ELay} : (fE e y).lookup ("variation" : Str) = some (.int e.variation) := by kernel_rfl
/-- e.variation is read -/
theorem gE_variation (tx : TxC K) {e : MEnd} {y : ELay} (h : H a = some (.ins (cE K) dx (fE e y))) {Q : VK} (q : Q (.int e.variation) H) : ∃ a1 C dx fs v, V.ref a = .ref a1 ∧ H a1 = some (.ins C dx fs) ∧ Cls K C ∧ NoAttr K C "variation" ∧ fs.lookup ("variation" : Str) = some v ∧ Q v H := ⟨a, cE K, dx, _, _, rfl, h, tx.clE, tx.nE_variation, lkE_variation, q⟩
theorem lkE_written {e : MEnd} {y : ELay} : (fE e y).lookup ("written" : Str) = some (.int e.written) := by kernel_rfl
/-- e.written is read -/
theorem gE_written (tx : TxC K) {e : MEnd} {y : ELay} (h : H a = some (.ins (cE K) dx (fE e y))) {Q : VK} (q : Q (.int e.written) H) : ∃ a1 C dx fs v, V.ref a = .ref a1 ∧ H a1 = some (.ins C dx fs) ∧ Cls K C ∧ NoAttr K C "written" ∧ fs.lookup ("written" : Str) = some v ∧ Q v H := ⟨a, cE K, dx, _, _, rfl, h, tx.clE, tx.nE_written, lkE_written, q⟩
theorem lkE_consumed {e : MEnd} {y : ELay} : (fE e y).lookup ("consumed" : Str) = some (.int e.consumed) := by kernel_rfl
/-- e.consumed is read -/
theorem gE_consumed (tx : TxC K) {e : MEnd} {y : ELay} (h : H a = some (.ins (cE K) dx (fE e y))) {Q : VK} (q : Q (.int e.consumed) H) : ∃ a1 C dx fs v, V.ref a = .ref a1 ∧ H a1 = some (.ins C dx fs) ∧ Cls K C ∧ NoAttr K C "consumed" ∧ fs.lookup ("consumed" : Str) = some v ∧ Q v H := ⟨a, cE K, dx, _, _, rfl, h, tx.clE, tx.nE_consumed, lkE_consumed, q⟩
/-- how many attributes -/
theorem lenE {e : MEnd} {y : ELay} : (fE e y).length = 27 := rfl
theorem lnE {e : MEnd} {y : ELay} : (fE e y).length < 1000 := by show 27 < 1000; decide
theorem ptE_side {e : MEnd} {y : ELay} (x : Int) : putF "side" (.int x) (fE e y) = fE { e with side := x } y := by kernel_rfl
theorem ptE_initial {e : MEnd} {y : ELay} (x : Int) : putF "initial" (.int x) (fE e y) = fE { e with initial := x } y := by kernel_rfl
theorem ptE_state {e : MEnd} {y : ELay} (x : Int) : putF "state" (.int x) (fE e y) = fE { e with state := x } y := by kernel_rfl
theorem ptE_acknowledged {e : MEnd} {y : ELay} (x : Int) : putF "acknowledged" (.int x) (fE e y) = fE { e with acknowledged := x } y := by kernel_rfl
theorem ptE_next_position {e : MEnd} {y : ELay} (x : Int) : putF "next_position" (.int x) (fE e y) = fE { e with next := x } y := by kernel_rfl
theorem ptE_unsent {e : MEnd} {y : ELay} (x : Addr) : putF "unsent" (.ref x) (fE e y) = fE e { y with un := x } := by kernel_rfl
theorem ptE_parts {e : MEnd} {y : ELay} (x : Addr) : putF "parts" (.ref x) (fE e y) = fE e { y with pts := x } := by kernel_rfl
theorem ptE_closing {e : MEnd} {y : ELay} (x : Bool) : putF "closing" (.bl x) (fE e y) = fE { e with closing := x } y := by kernel_rfl
theorem ptE_fin_sent {e : MEnd} {y : ELay} (x : Bool) : putF "fin_sent" (.bl x) (fE e y) = fE { e with finSent := x } y := by kernel_rfl
theorem ptE_peer_initial {e : MEnd} {y : ELay} (x : Int) : putF "peer_initial" (.int x) (fE e y) = fE { e with peerInitial := x } y := by kernel_rfl
theorem ptE_expected {e : MEnd} {y : ELay} (x : Int) : putF "expected" (.int x) (fE e y) = fE { e with expected := x } y := by kernel_rfl
theorem ptE_readable {e : MEnd} {y : ELay} (x : Addr) : putF "readable" (.ref x) (fE e y) = fE e { y with rd := x } := by kernel_rfl
theorem ptE_early {e : MEnd} {y : ELay} (x : Addr) : putF "early" (.ref x) (fE e y) = fE e { y with ea := x } := by kernel_rfl
theorem ptE_fin_position {e : MEnd} {y : ELay} (x : Int) : putF "fin_position" (.int x) (fE e y) = fE { e with finPos := x } y := by kernel_rfl
theorem ptE_fin_received {e : MEnd} {y : ELay} (x : Bool) : putF "fin_received" (.bl x) (fE e y) = fE { e with finReceived := x } y := by kernel_rfl
theorem ptE_peer_window {e : MEnd} {y : ELay} (x : Int) : putF "peer_window" (.int x) (fE e y) = fE { e with peerWindow := x } y := by kernel_rfl
theorem ptE_congestion {e : MEnd} {y : ELay} (x : Int) : putF "congestion" (.int x) (fE e y) = fE { e with congestion := x } y := by kernel_rfl
theorem ptE_threshold {e : MEnd} {y : ELay} (x : Int) : putF "threshold" (.int x) (fE e y) = fE { e with threshold := x } y := by kernel_rfl
theorem ptE_timeout {e : MEnd} {y : ELay} (x : Int) : putF "timeout" (.int x) (fE e y) = fE { e with timeout := x } y := by kernel_rfl
theorem ptE_timer {e : MEnd} {y : ELay} (x : Option Int) : putF "timer" (tV x) (fE e y) = fE { e with timer := x } y := by kernel_rfl
theorem ptE_duplicates {e : MEnd} {y : ELay} (x : Int) : putF "duplicates" (.int x) (fE e y) = fE { e with duplicates := x } y := by kernel_rfl
theorem ptE_retransmissions {e : MEnd} {y : ELay} (x : Int) : putF "retransmissions" (.int x) (fE e y) = fE { e with retrans := x } y := by kernel_rfl
theorem ptE_measured {e : MEnd} {y : ELay} (x : Bool) : putF "measured" (.bl x) (fE e y) = fE { e with measured := x } y := by kernel_rfl
theorem ptE_smoothed {e : MEnd} {y : ELay} (x : Int) : putF "smoothed" (.int x) (fE e y) = fE { e with smoothed := x } y := by kernel_rfl
theorem ptE_variation {e : MEnd} {y : ELay} (x : Int) : putF "variation" (.int x) (fE e y) = fE { e with variation := x } y := by kernel_rfl
theorem ptE_written {e : MEnd} {y : ELay} (x : Int) : putF "written" (.int x) (fE e y) = fE { e with written := x } y := by kernel_rfl
theorem ptE_consumed {e : MEnd} {y : ELay} (x : Int) : putF "consumed" (.int x) (fE e y) = fE { e with consumed := x } y := by kernel_rfl
theorem lkS_segment_size {n : MNet} {ini : Addr} : (fS n ini).lookup ("segment_size" : Str) = some (.int n.size) := by kernel_rfl
/-- e.segment_size is read -/
theorem gS_segment_size (tx : TxC K) {n : MNet} {ini : Addr} (h : H a = some (.ins (cS K) dx (fS n ini))) {Q : VK} (q : Q (.int n.size) H) : ∃ a1 C dx fs v, V.ref a = .ref a1 ∧ H a1 = some (.ins C dx fs) ∧ Cls K C ∧ NoAttr K C "segment_size" ∧ fs.lookup ("segment_size" : Str) = some v ∧ Q v H := ⟨a, cS K, dx, _, _, rfl, h, tx.clS, tx.nS_segment_size, lkS_segment_size, q⟩
theorem lkS_buffer {n : MNet} {ini : Addr} : (fS n ini).lookup ("buffer" : Str) = some (.int n.buffer) := by kernel_rfl
/-- e.buffer is read -/
theorem gS_buffer (tx : TxC K) {n : MNet} {ini : Addr} (h : H a = some (.ins (cS K) dx (fS n ini))) {Q : VK} (q : Q (.int n.buffer) H) : ∃ a1 C dx fs v, V.ref a = .ref a1 ∧ H a1 = some (.ins C dx fs) ∧ Cls K C ∧ NoAttr K C "buffer" ∧ fs.lookup ("buffer" : Str) = some v ∧ Q v H := ⟨a, cS K, dx, _, _, rfl, h, tx.clS, tx.nS_buffer, lkS_buffer, q⟩
theorem lkS_timeout {n : MNet} {ini : Addr} : (fS n ini).lookup ("timeout" : Str) = some (.int n.timeout) := by kernel_rfl
/-- e.timeout is read -/
theorem gS_timeout (tx : TxC K) {n : MNet} {ini : Addr} (h : H a = some (.ins (cS K) dx (fS n ini))) {Q : VK} (q : Q (.int n.timeout) H) : ∃ a1 C dx fs v, V.ref a = .ref a1 ∧ H a1 = some (.ins C dx fs) ∧ Cls K C ∧ NoAttr K C "timeout" ∧ fs.lookup ("timeout" : Str) = some v ∧ Q v H := ⟨a, cS K, dx, _, _, rfl, h, tx.clS, tx.nS_timeout, lkS_timeout, q⟩
theorem lkS_attempts {n : MNet} {ini : Addr} : (fS n ini).lookup ("attempts" : Str) = some (.int n.attempts) := by kernel_rfl
/-- e.attempts is read -/
theorem gS_attempts (tx : TxC K) {n : MNet} {ini : Addr} (h : H a = some (.ins (cS K) dx (fS n ini))) {Q : VK} (q : Q (.int n.attempts) H) : ∃ a1 C dx fs v, V.ref a = .ref a1 ∧ H a1 = some (.ins C dx fs) ∧ Cls K C ∧ NoAttr K C "attempts" ∧ fs.lookup ("attempts" : Str) = some v ∧ Q v H := ⟨a, cS K, dx, _, _, rfl, h, tx.clS, tx.nS_attempts, lkS_attempts, q⟩
theorem lkS_initials {n : MNet} {ini : Addr} : (fS n ini).lookup ("initials" : Str) = some (.ref ini) := by kernel_rfl
/-- e.initials is read -/
theorem gS_initials (tx : TxC K) {n : MNet} {ini : Addr} (h : H a = some (.ins (cS K) dx (fS n ini))) {Q : VK} (q : Q (.ref ini) H) : ∃ a1 C dx fs v, V.ref a = .ref a1 ∧ H a1 = some (.ins C dx fs) ∧ Cls K C ∧ NoAttr K C "initials" ∧ fs.lookup ("initials" : Str) = some v ∧ Q v H := ⟨a, cS K, dx, _, _, rfl, h, tx.clS, tx.nS_initials, lkS_initials, q⟩
/-- how many attributes -/
theorem lenS {n : MNet} {ini : Addr} : (fS n ini).length = 5 := rfl
theorem lnS {n : MNet} {ini : Addr} : (fS n ini).length < 1000 := by show 5 < 1000; decide
theorem lkL_settings {n : MNet} {L : Lay} : (fL n L).lookup ("settings" : Str) = some (.ref L.st) := by kernel_rfl
/-- e.settings is read -/
theorem gL_settings (tx : TxC K) {n : MNet} {L : Lay} (h : H a = some (.ins (cL K) dx (fL n L))) {Q : VK} (q : Q (.ref L.st) H) : ∃ a1 C dx fs v, V.ref a = .ref a1 ∧ H a1 = some (.ins C dx fs) ∧ Cls K C ∧ NoAttr K C "settings" ∧ fs.lookup ("settings" : Str) = some v ∧ Q v H := ⟨a, cL K, dx, _, _, rfl, h, tx.clL, tx.nL_settings, lkL_settings, q⟩
theorem lkL_now {n : MNet} {L : Lay} : (fL n L).lookup ("now" : Str) = some (.int n.now) := by kernel_rfl
/-- e.now is read -/
theorem gL_now (tx : TxC K) {n : MNet} {L : Lay} (h : H a = some (.ins (cL K) dx (fL n L))) {Q : VK} (q : Q (.int n.now) H) : ∃ a1 C dx fs v, V.ref a = .ref a1 ∧ H a1 = some (.ins C dx fs) ∧ Cls K C ∧ NoAttr K C "now" ∧ fs.lookup ("now" : Str) = some v ∧ Q v H := ⟨a, cL K, dx, _, _, rfl, h, tx.clL, tx.nL_now, lkL_now, q⟩
theorem lkL_ends {n : MNet} {L : Lay} : (fL n L).lookup ("ends" : Str) = some (.ref L.ends) := by kernel_rfl
/-- e.ends is read -/
theorem gL_ends (tx : TxC K) {n : MNet} {L : Lay} (h : H a = some (.ins (cL K) dx (fL n L))) {Q : VK} (q : Q (.ref L.ends) H) : ∃ a1 C dx fs v, V.ref a = .ref a1 ∧ H a1 = some (.ins C dx fs) ∧ Cls K C ∧ NoAttr K C "ends" ∧ fs.lookup ("ends" : Str) = some v ∧ Q v H := ⟨a, cL K, dx, _, _, rfl, h, tx.clL, tx.nL_ends, lkL_ends, q⟩
theorem lkL_segments {n : MNet} {L : Lay} : (fL n L).lookup ("segments" : Str) = some (.ref L.segs) := by kernel_rfl
/-- e.segments is read -/
theorem gL_segments (tx : TxC K) {n : MNet} {L : Lay} (h : H a = some (.ins (cL K) dx (fL n L))) {Q : VK} (q : Q (.ref L.segs) H) : ∃ a1 C dx fs v, V.ref a = .ref a1 ∧ H a1 = some (.ins C dx fs) ∧ Cls K C ∧ NoAttr K C "segments" ∧ fs.lookup ("segments" : Str) = some v ∧ Q v H := ⟨a, cL K, dx, _, _, rfl, h, tx.clL, tx.nL_segments, lkL_segments, q⟩
theorem lkL_sent {n : MNet} {L : Lay} : (fL n L).lookup ("sent" : Str) = some (.int n.sent) := by kernel_rfl
/-- e.sent is read -/
theorem gL_sent (tx : TxC K) {n : MNet} {L : Lay} (h : H a = some (.ins (cL K) dx (fL n L))) {Q : VK} (q : Q (.int n.sent) H) : ∃ a1 C dx fs v, V.ref a = .ref a1 ∧ H a1 = some (.ins C dx fs) ∧ Cls K C ∧ NoAttr K C "sent" ∧ fs.lookup ("sent" : Str) = some v ∧ Q v H := ⟨a, cL K, dx, _, _, rfl, h, tx.clL, tx.nL_sent, lkL_sent, q⟩
theorem lkL_delivered {n : MNet} {L : Lay} : (fL n L).lookup ("delivered" : Str) = some (.int n.delivered) := by kernel_rfl
/-- e.delivered is read -/
theorem gL_delivered (tx : TxC K) {n : MNet} {L : Lay} (h : H a = some (.ins (cL K) dx (fL n L))) {Q : VK} (q : Q (.int n.delivered) H) : ∃ a1 C dx fs v, V.ref a = .ref a1 ∧ H a1 = some (.ins C dx fs) ∧ Cls K C ∧ NoAttr K C "delivered" ∧ fs.lookup ("delivered" : Str) = some v ∧ Q v H := ⟨a, cL K, dx, _, _, rfl, h, tx.clL, tx.nL_delivered, lkL_delivered, q⟩
theorem lkL_lost {n : MNet} {L : Lay} : (fL n L).lookup ("lost" : Str) = some (.int n.lost) := by kernel_rfl
/-- e.lost is read -/
theorem gL_lost (tx : TxC K) {n : MNet} {L : Lay} (h : H a = some (.ins (cL K) dx (fL n L))) {Q : VK} (q : Q (.int n.lost) H) : ∃ a1 C dx fs v, V.ref a = .ref a1 ∧ H a1 = some (.ins C dx fs) ∧ Cls K C ∧ NoAttr K C "lost" ∧ fs.lookup ("lost" : Str) = some v ∧ Q v H := ⟨a, cL K, dx, _, _, rfl, h, tx.clL, tx.nL_lost, lkL_lost, q⟩
/-- how many attributes -/
theorem lenL {n : MNet} {L : Lay} : (fL n L).length = 7 := rfl
theorem lnL {n : MNet} {L : Lay} : (fL n L).length < 1000 := by show 7 < 1000; decide
theorem ptL_now {n : MNet} {L : Lay} (x : Int) : putF "now" (.int x) (fL n L) = fL { n with now := x } L := by kernel_rfl
theorem ptL_sent {n : MNet} {L : Lay} (x : Int) : putF "sent" (.int x) (fL n L) = fL { n with sent := x } L := by kernel_rfl
theorem ptL_delivered {n : MNet} {L : Lay} (x : Int) : putF "delivered" (.int x) (fL n L) = fL { n with delivered := x } L := by kernel_rfl
theorem ptL_lost {n : MNet} {L : Lay} (x : Int) : putF "lost" (.int x) (fL n L) = fL { n with lost := x } L := by kernel_rfl
theorem take_len {α : Type} (l : List α) {k : Nat} (h : k < 1000) : (l.take k).length < 1000 := by rw [List.length_take]; omega
theorem inG_sender {g : MSeg} {pl bl : Addr} : putF "sender" (.int g.sender) [] = ((fG g pl bl).take 1) := by kernel_rfl
theorem inG_flags {g : MSeg} {pl bl : Addr} : putF "flags" (.int g.flags) ((fG g pl bl).take 1) = ((fG g pl bl).take 2) := by kernel_rfl
theorem inG_sequence {g : MSeg} {pl bl : Addr} : putF "sequence" (.int g.seq) ((fG g pl bl).take 2) = ((fG g pl bl).take 3) := by kernel_rfl
theorem inG_payload {g : MSeg} {pl bl : Addr} : putF "payload" (.ref pl) ((fG g pl bl).take 3) = ((fG g pl bl).take 4) := by kernel_rfl
theorem inG_window {g : MSeg} {pl bl : Addr} : putF "window" (.int g.window) ((fG g pl bl).take 4) = ((fG g pl bl).take 5) := by kernel_rfl
theorem inG_confirmed {g : MSeg} {pl bl : Addr} : putF "confirmed" (.int g.confirmed) ((fG g pl bl).take 5) = ((fG g pl bl).take 6) := by kernel_rfl
theorem inG_blocks {g : MSeg} {pl bl : Addr} : putF "blocks" (.ref bl) ((fG g pl bl).take 6) = (fG g pl bl) := by kernel_rfl
theorem inP_position {p : MPart} {pl : Addr} : putF "position" (.int p.position) [] = ((fP p pl).take 1) := by kernel_rfl
theorem inP_flag {p : MPart} {pl : Addr} : putF "flag" (.int p.flag) ((fP p pl).take 1) = ((fP p pl).take 2) := by kernel_rfl
theorem inP_payload {p : MPart} {pl : Addr} : putF "payload" (.ref pl) ((fP p pl).take 2) = ((fP p pl).take 3) := by kernel_rfl
theorem inP_sent_at {p : MPart} {pl : Addr} : putF "sent_at" (.int p.sentAt) ((fP p pl).take 3) = ((fP p pl).take 4) := by kernel_rfl
theorem inP_transmissions {p : MPart} {pl : Addr} : putF "transmissions" (.int p.transmissions) ((fP p pl).take 4) = ((fP p pl).take 5) := by kernel_rfl
theorem inP_marked {p : MPart} {pl : Addr} : putF "marked" (.bl p.marked) ((fP p pl).take 5) = (fP p pl) := by kernel_rfl
theorem inE_side {e : MEnd} {y : ELay} : putF "side" (.int e.side) [] = ((fE e y).take 1) := by kernel_rfl
theorem inE_initial {e : MEnd} {y : ELay} : putF "initial" (.int e.initial) ((fE e y).take 1) = ((fE e y).take 2) := by kernel_rfl
theorem inE_state {e : MEnd} {y : ELay} : putF "state" (.int e.state) ((fE e y).take 2) = ((fE e y).take 3) := by kernel_rfl
theorem inE_acknowledged {e : MEnd} {y : ELay} : putF "acknowledged" (.int e.acknowledged) ((fE e y).take 3) = ((fE e y).take 4) := by kernel_rfl
theorem inE_next_position {e : MEnd} {y : ELay} : putF "next_position" (.int e.next) ((fE e y).take 4) = ((fE e y).take 5) := by kernel_rfl
theorem inE_unsent {e : MEnd} {y : ELay} : putF "unsent" (.ref y.un) ((fE e y).take 5) = ((fE e y).take 6) := by kernel_rfl
theorem inE_parts {e : MEnd} {y : ELay} : putF "parts" (.ref y.pts) ((fE e y).take 6) = ((fE e y).take 7) := by kernel_rfl
theorem inE_closing {e : MEnd} {y : ELay} : putF "closing" (.bl e.closing) ((fE e y).take 7) = ((fE e y).take 8) := by kernel_rfl
theorem inE_fin_sent {e : MEnd} {y : ELay} : putF "fin_sent" (.bl e.finSent) ((fE e y).take 8) = ((fE e y).take 9) := by kernel_rfl
theorem inE_peer_initial {e : MEnd} {y : ELay} : putF "peer_initial" (.int e.peerInitial) ((fE e y).take 9) = ((fE e y).take 10) := by kernel_rfl
theorem inE_expected {e : MEnd} {y : ELay} : putF "expected" (.int e.expected) ((fE e y).take 10) = ((fE e y).take 11) := by kernel_rfl
theorem inE_readable {e : MEnd} {y : ELay} : putF "readable" (.ref y.rd) ((fE e y).take 11) = ((fE e y).take 12) := by kernel_rfl
theorem inE_early {e : MEnd} {y : ELay} : putF "early" (.ref y.ea) ((fE e y).take 12) = ((fE e y).take 13) := by kernel_rfl
theorem inE_fin_position {e : MEnd} {y : ELay} : putF "fin_position" (.int e.finPos) ((fE e y).take 13) = ((fE e y).take 14) := by kernel_rfl
theorem inE_fin_received {e : MEnd} {y : ELay} : putF "fin_received" (.bl e.finReceived) ((fE e y).take 14) = ((fE e y).take 15) := by kernel_rfl
theorem inE_peer_window {e : MEnd} {y : ELay} : putF "peer_window" (.int e.peerWindow) ((fE e y).take 15) = ((fE e y).take 16) := by kernel_rfl
theorem inE_congestion {e : MEnd} {y : ELay} : putF "congestion" (.int e.congestion) ((fE e y).take 16) = ((fE e y).take 17) := by kernel_rfl
theorem inE_threshold {e : MEnd} {y : ELay} : putF "threshold" (.int e.threshold) ((fE e y).take 17) = ((fE e y).take 18) := by kernel_rfl
theorem inE_timeout {e : MEnd} {y : ELay} : putF "timeout" (.int e.timeout) ((fE e y).take 18) = ((fE e y).take 19) := by kernel_rfl
theorem inE_timer {e : MEnd} {y : ELay} : putF "timer" (tV e.timer) ((fE e y).take 19) = ((fE e y).take 20) := by kernel_rfl
theorem inE_duplicates {e : MEnd} {y : ELay} : putF "duplicates" (.int e.duplicates) ((fE e y).take 20) = ((fE e y).take 21) := by kernel_rfl
theorem inE_retransmissions {e : MEnd} {y : ELay} : putF "retransmissions" (.int e.retrans) ((fE e y).take 21) = ((fE e y).take 22) := by kernel_rfl
theorem inE_measured {e : MEnd} {y : ELay} : putF "measured" (.bl e.measured) ((fE e y).take 22) = ((fE e y).take 23) := by kernel_rfl
theorem inE_smoothed {e : MEnd} {y : ELay} : putF "smoothed" (.int e.smoothed) ((fE e y).take 23) = ((fE e y).take 24) := by kernel_rfl
theorem inE_variation {e : MEnd} {y : ELay} : putF "variation" (.int e.variation) ((fE e y).take 24) = ((fE e y).take 25) := by kernel_rfl
theorem inE_written {e : MEnd} {y : ELay} : putF "written" (.int e.written) ((fE e y).take 25) = ((fE e y).take 26) := by kernel_rfl
theorem inE_consumed {e : MEnd} {y : ELay} : putF "consumed" (.int e.consumed) ((fE e y).take 26) = (fE e y) := by kernel_rfl
theorem inS_segment_size {n : MNet} {ini : Addr} : putF "segment_size" (.int n.size) [] = ((fS n ini).take 1) := by kernel_rfl
theorem inS_buffer {n : MNet} {ini : Addr} : putF "buffer" (.int n.buffer) ((fS n ini).take 1) = ((fS n ini).take 2) := by kernel_rfl
theorem inS_timeout {n : MNet} {ini : Addr} : putF "timeout" (.int n.timeout) ((fS n ini).take 2) = ((fS n ini).take 3) := by kernel_rfl
theorem inS_attempts {n : MNet} {ini : Addr} : putF "attempts" (.int n.attempts) ((fS n ini).take 3) = ((fS n ini).take 4) := by kernel_rfl
theorem inS_initials {n : MNet} {ini : Addr} : putF "initials" (.ref ini) ((fS n ini).take 4) = (fS n ini) := by kernel_rfl
theorem inL_settings {n : MNet} {L : Lay} : putF "settings" (.ref L.st) [] = ((fL n L).take 1) := by kernel_rfl
theorem inL_now {n : MNet} {L : Lay} : putF "now" (.int n.now) ((fL n L).take 1) = ((fL n L).take 2) := by kernel_rfl
theorem inL_ends {n : MNet} {L : Lay} : putF "ends" (.ref L.ends) ((fL n L).take 2) = ((fL n L).take 3) := by kernel_rfl
theorem inL_segments {n : MNet} {L : Lay} : putF "segments" (.ref L.segs) ((fL n L).take 3) = ((fL n L).take 4) := by kernel_rfl
theorem inL_sent {n : MNet} {L : Lay} : putF "sent" (.int n.sent) ((fL n L).take 4) = ((fL n L).take 5) := by kernel_rfl
theorem inL_delivered {n : MNet} {L : Lay} : putF "delivered" (.int n.delivered) ((fL n L).take 5) = ((fL n L).take 6) := by kernel_rfl
theorem inL_lost {n : MNet} {L : Lay} : putF "lost" (.int n.lost) ((fL n L).take 6) = (fL n L) := by kernel_rfl
theorem keep_upd {H H1 : Hp} {p : Addr} {v : HO} (e : upd H p v = H1) : H1 p = some v ∧ ∀ b, b ≠ p → H1 b = H b := by
  subst e
  exact ⟨upd_same, fun b h => upd_ne h⟩
end
end Ws
set_option Elab.async false
set_option linter.all false
set_option maxRecDepth 100000
set_option maxHeartbeats 2000000
namespace Ws
open PySem PySem.Spec PyProof.Rows L2
/-! ### who may change what: each address bears a mark -/
inductive Tg where
  | frz | loc | lnk | seg
  | ep (i : Bool) | pts (i : Bool) | rd (i : Bool) | ea (i : Bool) | pt (i : Bool)
  deriving DecidableEq
abbrev Tm := Addr → Tg
/-- what stands free of the link stands as it was -/
def Fr (H : Hp) (T : Tm) (H' : Hp) (T' : Tm) : Prop := ∀ p o, H p = some o → T' p = T p ∧ (∃ u, H' p = some u) ∧ ((T p = .frz ∨ T p = .loc) → H' p = some o)
theorem Fr.refl (H : Hp) (T : Tm) : Fr H T H T := fun p o h => ⟨rfl, ⟨o, h⟩, fun _ => h⟩
theorem Fr.trans {H H1 H2 : Hp} {T T1 T2 : Tm} (a : Fr H T H1 T1) (b : Fr H1 T1 H2 T2) : Fr H T H2 T2 := fun p o h => by
  obtain ⟨t1, ⟨u, h1⟩, k1⟩ := a p o h
  obtain ⟨t2, h2, k2⟩ := b p u h1
  refine ⟨t2.trans t1, h2, fun q => ?_⟩
  have e := k1 q
  exact (b p o e).2.2 (by rw [t1]; exact q)
/-- the objects with such marks stand -/
def Kp (S : Tg → Prop) (H : Hp) (T : Tm) (H' : Hp) (T' : Tm) : Prop := ∀ p o, H p = some o → S (T p) → H' p = some o ∧ T' p = T p
theorem Fr.of_same {H H' : Hp} {T T' : Tm} (s : Same H H') (t : ∀ p o, H p = some o → T' p = T p) : Fr H T H' T' := fun p o h => ⟨t p o h, ⟨o, s p o h⟩, fun _ => s p o h⟩
/-- the marks where new objects are free -/
def rt (H : Hp) (T : Tm) : Tm := fun p => if (H p).isSome then T p else .frz
/-- .. but one -/
def rtg (H : Hp) (T : Tm) (a : Addr) (g : Tg) : Tm := fun p => if p = a then g else if (H p).isSome then T p else .frz
theorem rt_old {H : Hp} {T : Tm} {p : Addr} {o : HO} (h : H p = some o) : rt H T p = T p := by
  unfold rt
  rw [h]
  exact if_pos rfl
theorem rt_new {H : Hp} {T : Tm} {p : Addr} (h : H p = none) : rt H T p = .frz := by
  unfold rt
  rw [h]
  exact if_neg (by simp)
theorem rtg_at {H : Hp} {T : Tm} {a : Addr} {g : Tg} : rtg H T a g a = g := if_pos rfl
theorem rtg_old {H : Hp} {T : Tm} {a p : Addr} {g : Tg} {o : HO} (ha : H a = none) (h : H p = some o) : rtg H T a g p = T p := by
  unfold rtg
  rw [if_neg (ne_of_none h ha), h]
  exact if_pos rfl
theorem rtg_new {H : Hp} {T : Tm} {a p : Addr} {g : Tg} (hp : p ≠ a) (h : H p = none) : rtg H T a g p = .frz := by
  unfold rtg
  rw [if_neg hp, h]
  exact if_neg (by simp)
/-! ### a segment, a part, an endpoint -/
def BlkAt (H : Hp) (T : Tm) (q : Addr × (Int × Int)) : Prop := H q.1 = some (.tup [.int q.2.1, .int q.2.2]) ∧ T q.1 = .frz
def SegAt (K : PySem.W.Frag) (H : Hp) (T : Tm) (a : Addr) (g : MSeg) : Prop := ∃ dx pl bl, ∃ bs : List (Addr × (Int × Int)), H a = some (.ins (cG K) dx (fG g pl bl)) ∧ H pl = some (.lst (g.payload.map V.int)) ∧
  H bl = some (.lst (bs.map fun q => V.ref q.1)) ∧ g.blocks = bs.map (·.2) ∧ (∀ q ∈ bs, BlkAt H T q) ∧ T a = .frz ∧ T pl = .frz ∧ T bl = .frz ∧ 0 ≤ g.flags
structure PartAt (K : PySem.W.Frag) (H : Hp) (T : Tm) (i : Bool) (a : Addr) (p : MPart) : Prop where
  obj : ∃ dx pl, H a = some (.ins (cP K) dx (fP p pl)) ∧ H pl = some (.lst (p.payload.map V.int)) ∧ T pl = .frz
  tag : T a = .pt i
  nn : 0 ≤ p.flag
/-- an endpoint's own lists, its dict, its parts -/
structure EndC (K : PySem.W.Frag) (H : Hp) (T : Tm) (i : Bool) (y : ELay) (e : MEnd) : Prop where
  un : H y.un = some (.lst (e.unsent.map V.int))
  pts : H y.pts = some (.lst (y.ps.map fun q => V.ref q.1))
  ps : e.parts = y.ps.map (·.2)
  part : ∀ q ∈ y.ps, PartAt K H T i q.1 q.2
  nd : (y.ps.map (·.1)).Nodup
  rd : H y.rd = some (.lst (e.readable.map V.int))
  ea : H y.ea = some (.dK (e.early.map fun q => (Sum.inl q.1, V.int q.2)))
  tU : T y.un = .frz
  tP : T y.pts = .pts i
  tR : T y.rd = .rd i
  tE : T y.ea = .ea i
structure EndAt (K : PySem.W.Frag) (H : Hp) (T : Tm) (i : Bool) (a : Addr) (y : ELay) (e : MEnd) : Prop where
  obj : ∃ dx, H a = some (.ins (cE K) dx (fE e y))
  tA : T a = .ep i
  c : EndC K H T i y e
def both (L : Lay) : List V := if L.i = true then [.ref L.b, .ref L.a] else [.ref L.a, .ref L.b]
/-- the link at L: n is its own, e the endpoint looked at, o the other one -/
structure Rep (K : PySem.W.Frag) (H : Hp) (T : Tm) (L : Lay) (n : MNet) (e o : MEnd) : Prop where
  tx : TxC K
  lk : ∃ dx, H L.lk = some (.ins (cL K) dx (fL n L))
  st : ∃ dx, H L.st = some (.ins (cS K) dx (fS n L.ini))
  ini : H L.ini = some (.lst (n.ini.map V.int))
  ends : H L.ends = some (.lst (both L))
  sg : H L.segs = some (.lst (L.ss.map fun q => V.ref q.1))
  ss : n.segs = L.ss.map (·.2)
  sa : ∀ q ∈ L.ss, SegAt K H T q.1 q.2
  ea : EndAt K H T L.i L.a L.y e
  eb : EndAt K H T (!L.i) L.b L.z o
  tL : T L.lk = .lnk
  tS : T L.st = .frz
  tI : T L.ini = .frz
  tN : T L.ends = .frz
  tG : T L.segs = .seg
section
variable {K : PySem.W.Frag} {H H' : Hp} {T T' : Tm} {S : Tg → Prop} {L : Lay} {n n' : MNet} {e e' o : MEnd} {i : Bool} {y y' : ELay} {a dx : Addr} {g : MSeg} {p : MPart} {u : HO}
theorem SegAt.kp (k : Kp S H T H' T') (s : S .frz) (x : SegAt K H T a g) : SegAt K H' T' a g := by
  obtain ⟨dx, pl, bl, bs, h1, h2, h3, h4, h5, t1, t2, t3, f⟩ := x
  have k1 := k _ _ h1 (by rw [t1]; exact s)
  have k2 := k _ _ h2 (by rw [t2]; exact s)
  have k3 := k _ _ h3 (by rw [t3]; exact s)
  refine ⟨dx, pl, bl, bs, k1.1, k2.1, k3.1, h4, fun q m => ?_, k1.2.trans t1, k2.2.trans t2, k3.2.trans t3, f⟩
  obtain ⟨b1, b2⟩ := h5 q m
  have kb := k _ _ b1 (by rw [b2]; exact s)
  exact ⟨kb.1, kb.2.trans b2⟩
theorem PartAt.kp (k : Kp S H T H' T') (s : S .frz) (s2 : S (.pt i)) (x : PartAt K H T i a p) : PartAt K H' T' i a p := by
  obtain ⟨⟨dx, pl, h1, h2, t2⟩, t1, f⟩ := x
  have k1 := k _ _ h1 (by rw [t1]; exact s2)
  have k2 := k _ _ h2 (by rw [t2]; exact s)
  exact ⟨⟨dx, pl, k1.1, k2.1, k2.2.trans t2⟩, k1.2.trans t1, f⟩
theorem EndC.kp (k : Kp S H T H' T') (s : S .frz) (s1 : S (.pts i)) (s2 : S (.rd i)) (s3 : S (.ea i)) (s4 : S (.pt i)) (x : EndC K H T i y e) : EndC K H' T' i y e := by
  have k1 := k _ _ x.un (by rw [x.tU]; exact s)
  have k2 := k _ _ x.pts (by rw [x.tP]; exact s1)
  have k3 := k _ _ x.rd (by rw [x.tR]; exact s2)
  have k4 := k _ _ x.ea (by rw [x.tE]; exact s3)
  exact ⟨k1.1, k2.1, x.ps, fun q m => (x.part q m).kp k s s4, x.nd, k3.1, k4.1, k1.2.trans x.tU, k2.2.trans x.tP, k3.2.trans x.tR, k4.2.trans x.tE⟩
theorem EndAt.kp (k : Kp S H T H' T') (s : S .frz) (s0 : S (.ep i)) (s1 : S (.pts i)) (s2 : S (.rd i)) (s3 : S (.ea i)) (s4 : S (.pt i)) (x : EndAt K H T i a y e) : EndAt K H' T' i a y e := by
  obtain ⟨⟨dx, h⟩, t, c⟩ := x
  have k1 := k _ _ h (by rw [t]; exact s0)
  exact ⟨⟨dx, k1.1⟩, k1.2.trans t, c.kp k s s1 s2 s3 s4⟩
/-- only new objects, only marks of new ones -/
theorem Rep.same (R : Rep K H T L n e o) (s : Same H H') (t : ∀ p u, H p = some u → T' p = T p) : Rep K H' T' L n e o := by
  have k : Kp (fun _ => True) H T H' T' := fun p u h _ => ⟨s p u h, t p u h⟩
  obtain ⟨dl, hl⟩ := R.lk
  obtain ⟨ds, hs⟩ := R.st
  exact ⟨R.tx, ⟨dl, s _ _ hl⟩, ⟨ds, s _ _ hs⟩, s _ _ R.ini, s _ _ R.ends, s _ _ R.sg, R.ss, fun q m => (R.sa q m).kp k trivial, R.ea.kp k trivial trivial trivial trivial trivial trivial, R.eb.kp k trivial trivial trivial trivial trivial trivial,
    (t _ _ hl).trans R.tL, (t _ _ hs).trans R.tS, (t _ _ R.ini).trans R.tI, (t _ _ R.ends).trans R.tN, (t _ _ R.sg).trans R.tG⟩
/-- one object is written -/
theorem kp_upd (h : ¬ S (T a)) : Kp S H T (upd H a u) T := fun p o hp sp => by
  have ne : p ≠ a := fun q => h (by rw [← q]; exact sp)
  exact ⟨by rw [upd_ne ne]; exact hp, rfl⟩
theorem fr_upd (h : T a ≠ .frz) (h2 : T a ≠ .loc) {v : HO} (ha : H a = some v) : Fr H T (upd H a u) T := fun p o hp => by
  by_cases q : p = a
  · subst q
    exact ⟨rfl, ⟨u, upd_same⟩, fun z => absurd z (by rintro (z | z); exact h z; exact h2 z)⟩
  · exact ⟨rfl, ⟨o, by rw [upd_ne q]; exact hp⟩, fun _ => by rw [upd_ne q]; exact hp⟩
theorem bnot_ne (i : Bool) : (!i) ≠ i := by cases i <;> decide
/-- the endpoint's object is written anew, with containers that stand -/
theorem Rep.putE (R : Rep K H T L n e o) (C : EndC K H T L.i y' e') (eq : upd H L.a (.ins (cE K) dx (fE e' y')) = H') : Rep K H' T { L with y := y' } n e' o ∧ Fr H T H' T := by
  subst eq
  obtain ⟨dl, hl⟩ := R.lk
  obtain ⟨ds, hs⟩ := R.st
  obtain ⟨da, ha⟩ := R.ea.obj
  have tA := R.ea.tA
  have k : Kp (fun t => t ≠ .ep L.i) H T (upd H L.a (.ins (cE K) dx (fE e' y'))) T := kp_upd (fun z => z tA)
  have st : ∀ {p u}, H p = some u → T p ≠ .ep L.i → upd H L.a (.ins (cE K) dx (fE e' y')) p = some u := fun h t => (k _ _ h t).1
  refine ⟨⟨R.tx, ⟨dl, ?_⟩, ⟨ds, ?_⟩, ?_, ?_, ?_, R.ss, fun q m => (R.sa q m).kp k (by simp), ⟨⟨dx, upd_same⟩, tA, C.kp k (by simp) (by simp) (by simp) (by simp) (by simp)⟩, R.eb.kp k (by simp) (by simp [bnot_ne]) (by simp) (by simp) (by simp) (by simp), R.tL, R.tS, R.tI, R.tN, R.tG⟩, fr_upd (by rw [tA]; simp) (by rw [tA]; simp) ha⟩
  · exact st hl (by rw [R.tL]; simp)
  · exact st hs (by rw [R.tS]; simp)
  · exact st R.ini (by rw [R.tI]; simp)
  · exact st R.ends (by rw [R.tN]; simp)
  · exact st R.sg (by rw [R.tG]; simp)
/-- .. with its own containers -/
theorem Rep.setE (R : Rep K H T L n e o) (eq : upd H L.a (.ins (cE K) dx (fE e' L.y)) = H') (h1 : e'.unsent = e.unsent := by rfl) (h2 : e'.parts = e.parts := by rfl) (h3 : e'.readable = e.readable := by rfl) (h4 : e'.early = e.early := by rfl) :
    Rep K H' T L n e' o ∧ Fr H T H' T := by
  have C := R.ea.c
  exact R.putE (y' := L.y) ⟨by rw [h1]; exact C.un, C.pts, by rw [h2]; exact C.ps, C.part, C.nd, by rw [h3]; exact C.rd, by rw [h4]; exact C.ea, C.tU, C.tP, C.tR, C.tE⟩ eq
/-- the endpoint's containers are written, its object stands -/
theorem Rep.mutC (R : Rep K H T L n e o) (k : Kp (fun t => t ≠ .pts L.i ∧ t ≠ .rd L.i ∧ t ≠ .ea L.i ∧ t ≠ .pt L.i) H T H' T') (C : EndC K H' T' L.i y' e') (f : fE e' y' = fE e L.y) : Rep K H' T' { L with y := y' } n e' o := by
  obtain ⟨dl, hl⟩ := R.lk
  obtain ⟨ds, hs⟩ := R.st
  obtain ⟨da, ha⟩ := R.ea.obj
  have tA := R.ea.tA
  have k0 := k _ _ ha (by rw [tA]; simp)
  have k1 := k _ _ hl (by rw [R.tL]; simp)
  have k2 := k _ _ hs (by rw [R.tS]; simp)
  have k3 := k _ _ R.ini (by rw [R.tI]; simp)
  have k4 := k _ _ R.ends (by rw [R.tN]; simp)
  have k5 := k _ _ R.sg (by rw [R.tG]; simp)
  exact ⟨R.tx, ⟨dl, k1.1⟩, ⟨ds, k2.1⟩, k3.1, k4.1, k5.1, R.ss, fun q m => (R.sa q m).kp k (by simp), ⟨⟨da, by rw [f]; exact k0.1⟩, k0.2.trans tA, C⟩, R.eb.kp k (by simp) (by simp) (by simp [bnot_ne]) (by simp [bnot_ne]) (by simp [bnot_ne]) (by simp [bnot_ne]),
    k1.2.trans R.tL, k2.2.trans R.tS, k3.2.trans R.tI, k4.2.trans R.tN, k5.2.trans R.tG⟩
/-- the link's object is written; its segments may be told anew -/
theorem Rep.setL (R : Rep K H T L n e o) (eq : upd H L.lk (.ins (cL K) dx (fL n' L)) = H') (h1 : n'.size = n.size := by rfl) (h2 : n'.buffer = n.buffer := by rfl) (h3 : n'.timeout = n.timeout := by rfl) (h4 : n'.attempts = n.attempts := by rfl) (h5 : n'.ini = n.ini := by rfl) (h6 : n'.segs = n.segs := by rfl) :
    Rep K H' T L n' e o ∧ Fr H T H' T := by
  subst eq
  obtain ⟨dl, hl⟩ := R.lk
  obtain ⟨ds, hs⟩ := R.st
  have k : Kp (fun t => t ≠ .lnk) H T (upd H L.lk (.ins (cL K) dx (fL n' L))) T := kp_upd (fun z => z R.tL)
  have hf : fS n' L.ini = fS n L.ini := by unfold fS; rw [h1, h2, h3, h4]
  refine ⟨⟨R.tx, ⟨dx, upd_same⟩, ⟨ds, ?_⟩, ?_, ?_, ?_, by rw [h6]; exact R.ss, fun q m => (R.sa q m).kp k (by simp), R.ea.kp k (by simp) (by simp) (by simp) (by simp) (by simp) (by simp), R.eb.kp k (by simp) (by simp) (by simp) (by simp) (by simp) (by simp), R.tL, R.tS, R.tI, R.tN, R.tG⟩, fr_upd (by rw [R.tL]; simp) (by rw [R.tL]; simp) hl⟩
  · rw [hf]
    exact (k _ _ hs (by rw [R.tS]; simp)).1
  · rw [h5]
    exact (k _ _ R.ini (by rw [R.tI]; simp)).1
  · exact (k _ _ R.ends (by rw [R.tN]; simp)).1
  · exact (k _ _ R.sg (by rw [R.tG]; simp)).1
/-- the list of the segments is written -/
theorem Rep.mutS (R : Rep K H T L n e o) {ss' : List (Addr × MSeg)} (sa : ∀ q ∈ ss', SegAt K H T q.1 q.2) (hn : n' = { n with segs := ss'.map (·.2) }) (eq : upd H L.segs (.lst (ss'.map fun q => V.ref q.1)) = H') : Rep K H' T { L with ss := ss' } n' e o ∧ Fr H T H' T := by
  subst eq hn
  obtain ⟨dl, hl⟩ := R.lk
  obtain ⟨ds, hs⟩ := R.st
  have k : Kp (fun t => t ≠ .seg) H T (upd H L.segs (.lst (ss'.map fun q => V.ref q.1))) T := kp_upd (fun z => z R.tG)
  exact ⟨⟨R.tx, ⟨dl, (k _ _ hl (by rw [R.tL]; simp)).1⟩, ⟨ds, (k _ _ hs (by rw [R.tS]; simp)).1⟩, (k _ _ R.ini (by rw [R.tI]; simp)).1, (k _ _ R.ends (by rw [R.tN]; simp)).1, upd_same, rfl, fun q m => (sa q m).kp k (by simp), R.ea.kp k (by simp) (by simp) (by simp) (by simp) (by simp) (by simp),
    R.eb.kp k (by simp) (by simp) (by simp) (by simp) (by simp) (by simp), R.tL, R.tS, R.tI, R.tN, R.tG⟩, fr_upd (by rw [R.tG]; simp) (by rw [R.tG]; simp) R.sg⟩
/-- a change of the marks of what isn't there -/
theorem Rep.fresh {p : Addr} {v : HO} (R : Rep K H T L n e o) (h : H p = none) : Rep K (upd H p v) T L n e o := R.same (fun b u q => by rw [upd_ne (ne_of_none q h)]; exact q) fun _ _ _ => rfl
end
end Ws
set_option Elab.async false
set_option linter.all false
set_option maxRecDepth 100000
set_option maxHeartbeats 2000000
namespace Ws
open PySem PySem.Spec PyProof.Rows L2
/-! ### tests -/
theorem ifD {c A B : Prop} [Decidable c] (h1 : c → A) (h2 : ¬ c → B) : if decide c = true then A else B := by
  by_cases h : c
  · rw [if_pos (decide_eq_true h)]
    exact h1 h
  · rw [if_neg (by rw [decide_eq_false h]; exact Bool.false_ne_true)]
    exact h2 h
theorem ifN {c A B : Prop} [Decidable c] (h1 : ¬ c → A) (h2 : c → B) : if (!decide c) = true then A else B := by
  by_cases h : c
  · rw [if_neg (by rw [decide_eq_true h]; exact Bool.false_ne_true)]
    exact h2 h
  · rw [if_pos (by rw [decide_eq_false h]; rfl)]
    exact h1 h
theorem ifB {b : Bool} {A B : Prop} (h1 : b = true → A) (h2 : b = false → B) : if b = true then A else B := by
  cases b with
  | true => exact (if_pos rfl).mpr (h1 rfl)
  | false => exact (if_neg Bool.false_ne_true).mpr (h2 rfl)
theorem ifNB {b : Bool} {A B : Prop} (h1 : b = false → A) (h2 : b = true → B) : if (!b) = true then A else B := by
  cases b with
  | false => exact (if_pos rfl).mpr (h1 rfl)
  | true => exact (if_neg Bool.false_ne_true).mpr (h2 rfl)
theorem ifE {xs : List V} {A B : Prop} (h1 : xs = [] → A) (h2 : xs ≠ [] → B) : if xs.isEmpty = true then A else B := by
  cases xs with
  | nil => exact (if_pos rfl).mpr (h1 rfl)
  | cons x r => exact (if_neg Bool.false_ne_true).mpr (h2 (by simp))
theorem ifNE {xs : List V} {A B : Prop} (h1 : xs ≠ [] → A) (h2 : xs = [] → B) : if (!xs.isEmpty) = true then A else B := by
  cases xs with
  | nil => exact (if_neg Bool.false_ne_true).mpr (h2 rfl)
  | cons x r => exact (if_pos rfl).mpr (h1 (by simp))
theorem band_eq {i j : Int} (h1 : 0 ≤ i) (h2 : 0 ≤ j) : Builtin.bitAnd i j = band i j := by
  unfold Builtin.bitAnd
  rw [decide_eq_true h1, decide_eq_true h2]
  rfl
theorem tV_none {t : Option Int} : decide (tV t = V.non) = decide (t = none) := by
  cases t with
  | none => rfl
  | some t => rfl
theorem map_nil_iff {α β : Type} {f : α → β} {l : List α} : l.map f = [] ↔ l = [] := List.map_eq_nil_iff
theorem bind_some {α β : Type} {x : Option α} {f : α → Option β} {b : β} (h : x.bind f = some b) : ∃ a, x = some a ∧ f a = some b := Option.bind_eq_some_iff.mp h
/-! ### a step's frame -/
def Nx (H : Hp) (T : Tm) (L : Lay) (H' : Hp) (T' : Tm) (L' : Lay) : Prop := L'.lk = L.lk ∧ L'.a = L.a ∧ L'.b = L.b ∧ L'.i = L.i ∧ Fr H T H' T'
theorem Nx.refl (H : Hp) (T : Tm) (L : Lay) : Nx H T L H T L := ⟨rfl, rfl, rfl, rfl, Fr.refl H T⟩
theorem Nx.trans {H H1 H2 : Hp} {T T1 T2 : Tm} {L L1 L2 : Lay} (a : Nx H T L H1 T1 L1) (b : Nx H1 T1 L1 H2 T2 L2) : Nx H T L H2 T2 L2 :=
  ⟨b.1.trans a.1, b.2.1.trans a.2.1, b.2.2.1.trans a.2.2.1, b.2.2.2.1.trans a.2.2.2.1, a.2.2.2.2.trans b.2.2.2.2⟩
theorem same_upd {H : Hp} {p : Addr} {v : HO} (h : H p = none) : Same H (upd H p v) := fun b u q => by
  rw [upd_ne (ne_of_none q h)]
  exact q
section
variable {K : PySem.W.Frag} {H H' : Hp} {T T' : Tm} {L : Lay} {n n' : MNet} {e e' o : MEnd} {p dx : Addr} {v : HO} {g : Tg}
/-- a new object, with its mark -/
theorem Rep.alloc (R : Rep K H T L n e o) (hp : H p = none) (g : Tg) (eq : upd H p v = H') : Rep K H' (rtg H T p g) L n e o ∧ Fr H T H' (rtg H T p g) ∧ H' p = some v ∧ rtg H T p g p = g ∧ Same H H' := by
  subst eq
  have s := same_upd (v := v) hp
  have t : ∀ q u, H q = some u → rtg H T p g q = T q := fun q u h => rtg_old hp h
  exact ⟨R.same s t, Fr.of_same s t, upd_same, rtg_at, s⟩
theorem Rep.sameF (R : Rep K H T L n e o) (s : Same H H') : Rep K H' T L n e o ∧ Fr H T H' T := ⟨R.same s fun _ _ _ => rfl, Fr.of_same s fun _ _ _ => rfl⟩
theorem Rep.putUn (R : Rep K H T L n e o) {us : List Int} (hp : H p = some (.lst (us.map V.int))) (tp : T p = .frz) (eq : upd H L.a (.ins (cE K) dx (fE { e with unsent := us } { L.y with un := p })) = H') :
    Rep K H' T { L with y := { L.y with un := p } } n { e with unsent := us } o ∧ Fr H T H' T := by
  have C := R.ea.c
  exact R.putE (y' := { L.y with un := p }) ⟨hp, C.pts, C.ps, C.part, C.nd, C.rd, C.ea, tp, C.tP, C.tR, C.tE⟩ eq
theorem Rep.putRd (R : Rep K H T L n e o) {us : List Int} (hp : H p = some (.lst (us.map V.int))) (tp : T p = .rd L.i) (eq : upd H L.a (.ins (cE K) dx (fE { e with readable := us } { L.y with rd := p })) = H') :
    Rep K H' T { L with y := { L.y with rd := p } } n { e with readable := us } o ∧ Fr H T H' T := by
  have C := R.ea.c
  exact R.putE (y' := { L.y with rd := p }) ⟨C.un, C.pts, C.ps, C.part, C.nd, hp, C.ea, C.tU, C.tP, tp, C.tE⟩ eq
theorem Rep.putPts (R : Rep K H T L n e o) {ps' : List (Addr × MPart)} (hp : H p = some (.lst (ps'.map fun q => V.ref q.1))) (tp : T p = .pts L.i) (hq : ∀ q ∈ ps', PartAt K H T L.i q.1 q.2) (nd : (ps'.map (·.1)).Nodup)
    (eq : upd H L.a (.ins (cE K) dx (fE { e with parts := ps'.map (·.2) } { L.y with pts := p })) = H') :
    Rep K H' T { L with y := { L.y with pts := p, ps := ps' } } n { e with parts := ps'.map (·.2) } o ∧ Fr H T H' T := by
  have C := R.ea.c
  exact R.putE (y' := { L.y with pts := p, ps := ps' }) ⟨C.un, hp, rfl, hq, nd, C.rd, C.ea, C.tU, tp, C.tR, C.tE⟩ eq
/-- readable is written in its place -/
theorem Rep.mutRd (R : Rep K H T L n e o) {us : List Int} (eq : upd H L.y.rd (.lst (us.map V.int)) = H') : Rep K H' T L n { e with readable := us } o ∧ Fr H T H' T := by
  subst eq
  have C := R.ea.c
  have k : Kp (fun t => t ≠ .rd L.i) H T (upd H L.y.rd (.lst (us.map V.int))) T := kp_upd (fun z => z C.tR)
  have k2 : Kp (fun t => t ≠ .pts L.i ∧ t ≠ .rd L.i ∧ t ≠ .ea L.i ∧ t ≠ .pt L.i) H T (upd H L.y.rd (.lst (us.map V.int))) T := kp_upd (fun z => z.2.1 C.tR)
  exact ⟨R.mutC (y' := L.y) (e' := { e with readable := us }) k2 ⟨(k _ _ C.un (by rw [C.tU]; simp)).1, (k _ _ C.pts (by rw [C.tP]; simp)).1, C.ps, fun q m => (C.part q m).kp k (by simp) (by simp), C.nd, upd_same, (k _ _ C.ea (by rw [C.tE]; simp)).1, C.tU, C.tP, C.tR, C.tE⟩ rfl,
    fr_upd (by rw [C.tR]; simp) (by rw [C.tR]; simp) C.rd⟩
/-- the early bytes are written in their place -/
theorem Rep.mutEa (R : Rep K H T L n e o) {kvs : List (Int × Int)} (eq : upd H L.y.ea (.dK (kvs.map fun q => (Sum.inl q.1, V.int q.2))) = H') : Rep K H' T L n { e with early := kvs } o ∧ Fr H T H' T := by
  subst eq
  have C := R.ea.c
  have k : Kp (fun t => t ≠ .ea L.i) H T (upd H L.y.ea (.dK (kvs.map fun q => (Sum.inl q.1, V.int q.2)))) T := kp_upd (fun z => z C.tE)
  have k2 : Kp (fun t => t ≠ .pts L.i ∧ t ≠ .rd L.i ∧ t ≠ .ea L.i ∧ t ≠ .pt L.i) H T (upd H L.y.ea (.dK (kvs.map fun q => (Sum.inl q.1, V.int q.2)))) T := kp_upd (fun z => z.2.2.1 C.tE)
  exact ⟨R.mutC (y' := L.y) (e' := { e with early := kvs }) k2 ⟨(k _ _ C.un (by rw [C.tU]; simp)).1, (k _ _ C.pts (by rw [C.tP]; simp)).1, C.ps, fun q m => (C.part q m).kp k (by simp) (by simp), C.nd, (k _ _ C.rd (by rw [C.tR]; simp)).1, upd_same, C.tU, C.tP, C.tR, C.tE⟩ rfl,
    fr_upd (by rw [C.tE]; simp) (by rw [C.tE]; simp) C.ea⟩
/-- the list of parts is written in its place -/
theorem Rep.mutPts (R : Rep K H T L n e o) {ps' : List (Addr × MPart)} (hq : ∀ q ∈ ps', PartAt K H T L.i q.1 q.2) (nd : (ps'.map (·.1)).Nodup) (eq : upd H L.y.pts (.lst (ps'.map fun q => V.ref q.1)) = H') :
    Rep K H' T { L with y := { L.y with ps := ps' } } n { e with parts := ps'.map (·.2) } o ∧ Fr H T H' T := by
  subst eq
  have C := R.ea.c
  have k : Kp (fun t => t ≠ .pts L.i) H T (upd H L.y.pts (.lst (ps'.map fun q => V.ref q.1))) T := kp_upd (fun z => z C.tP)
  have k2 : Kp (fun t => t ≠ .pts L.i ∧ t ≠ .rd L.i ∧ t ≠ .ea L.i ∧ t ≠ .pt L.i) H T (upd H L.y.pts (.lst (ps'.map fun q => V.ref q.1))) T := kp_upd (fun z => z.1 C.tP)
  exact ⟨R.mutC (y' := { L.y with ps := ps' }) (e' := { e with parts := ps'.map (·.2) }) k2 ⟨(k _ _ C.un (by rw [C.tU]; simp)).1, upd_same, rfl, fun q m => (hq q m).kp k (by simp) (by simp), nd, (k _ _ C.rd (by rw [C.tR]; simp)).1, (k _ _ C.ea (by rw [C.tE]; simp)).1, C.tU, C.tP, C.tR, C.tE⟩ rfl,
    fr_upd (by rw [C.tP]; simp) (by rw [C.tP]; simp) C.pts⟩
theorem set_map_fst {l : List (Addr × MPart)} {k : Nat} {a : Addr} {q q' : MPart} (hk : l[k]? = some (a, q)) : (l.set k (a, q')).map (·.1) = l.map (·.1) := by
  rw [List.map_set]
  refine List.ext_getElem? fun j => ?_
  rw [List.getElem?_set]
  split
  · rename_i hj
    subst hj
    split
    · rw [List.getElem?_map, hk]
      rfl
    · rename_i hl
      rw [List.getElem?_eq_none (by simpa using hl)]
  · rfl
/-- one part is written in its place -/
theorem Rep.mutPart (R : Rep K H T L n e o) {k : Nat} {a dxp pl : Addr} {q q' : MPart} (hk : L.y.ps[k]? = some (a, q)) (hpl : H pl = some (.lst (q'.payload.map V.int))) (tpl : T pl = .frz) (nn : 0 ≤ q'.flag) (eq : upd H a (.ins (cP K) dxp (fP q' pl)) = H') :
    Rep K H' T { L with y := { L.y with ps := L.y.ps.set k (a, q') } } n { e with parts := e.parts.set k q' } o ∧ Fr H T H' T := by
  subst eq
  have C := R.ea.c
  have hm : (a, q) ∈ L.y.ps := List.mem_of_getElem? hk
  have P0 := C.part _ hm
  have ta : T a = .pt L.i := P0.tag
  obtain ⟨dx0, pl0, h0, _, _⟩ := P0.obj
  have k1 : Kp (fun t => t ≠ .pt L.i) H T (upd H a (.ins (cP K) dxp (fP q' pl))) T := kp_upd (fun z => z ta)
  have k2 : Kp (fun t => t ≠ .pts L.i ∧ t ≠ .rd L.i ∧ t ≠ .ea L.i ∧ t ≠ .pt L.i) H T (upd H a (.ins (cP K) dxp (fP q' pl))) T := kp_upd (fun z => z.2.2.2 ta)
  have hpl' := (k1 _ _ hpl (by rw [tpl]; simp)).1
  have fst := set_map_fst (q' := q') hk
  refine ⟨R.mutC (y' := { L.y with ps := L.y.ps.set k (a, q') }) (e' := { e with parts := e.parts.set k q' }) k2 ⟨(k1 _ _ C.un (by rw [C.tU]; simp)).1, ?_, ?_, ?_, ?_, (k1 _ _ C.rd (by rw [C.tR]; simp)).1, (k1 _ _ C.ea (by rw [C.tE]; simp)).1, C.tU, C.tP, C.tR, C.tE⟩ rfl, fr_upd (by rw [ta]; simp) (by rw [ta]; simp) h0⟩
  · have e1 : (L.y.ps.set k (a, q')).map (fun q => V.ref q.1) = L.y.ps.map fun q => V.ref q.1 := by
      have := congrArg (List.map V.ref) fst
      rw [List.map_map, List.map_map] at this
      exact this
    show upd H a _ L.y.pts = some (.lst ((L.y.ps.set k (a, q')).map fun q => V.ref q.1))
    rw [e1]
    exact (k1 _ _ C.pts (by rw [C.tP]; simp)).1
  · show e.parts.set k q' = (L.y.ps.set k (a, q')).map (·.2)
    rw [List.map_set, C.ps]
  · intro x hx
    obtain ⟨j, hj⟩ := List.mem_iff_getElem?.mp hx
    have hj' : (L.y.ps.set k (a, q'))[j]? = some x := hj
    rw [List.getElem?_set] at hj'
    by_cases ejk : k = j
    · subst ejk
      have hl : k < L.y.ps.length := (List.getElem?_eq_some_iff.mp hk).1
      rw [if_pos rfl, if_pos hl] at hj'
      cases hj'
      exact ⟨⟨dxp, pl, upd_same, hpl', tpl⟩, ta, nn⟩
    · rw [if_neg ejk] at hj'
      have mx : x ∈ L.y.ps := List.mem_of_getElem? hj'
      have Px := C.part x mx
      obtain ⟨dx1, pl1, g1, g2, g3⟩ := Px.obj
      have ne : x.1 ≠ a := by
        intro ea
        have i1 : (L.y.ps.map (·.1))[j]? = some a := by rw [List.getElem?_map, hj']; exact congrArg some ea
        have i2 : (L.y.ps.map (·.1))[k]? = some a := by rw [List.getElem?_map, hk]; rfl
        exact ejk (nd_ix C.nd i2 i1)
      exact ⟨⟨dx1, pl1, by rw [upd_ne ne]; exact g1, (k1 _ _ g2 (by rw [g3]; simp)).1, g3⟩, Px.tag, Px.nn⟩
  · show ((L.y.ps.set k (a, q')).map (·.1)).Nodup
    rw [fst]
    exact C.nd
end
theorem take_more {α : Type} {l : List α} {i : Nat} {x : α} (h : l[i]? = some x) : l.take (i + 1) = l.take i ++ [x] := by
  rw [List.take_succ, h]
  rfl
/-! ### slices -/
theorem cut_take {α : Type} {f : α → V} (xs : List α) {m : Int} (h : 0 ≤ m) : cutV (xs.map f) none (some m) = (xs.take m.toNat).map f := by
  obtain ⟨k, rfl⟩ := Int.eq_ofNat_of_zero_le h
  unfold cutV
  rw [HT.sIx_none, HT.sIx_nat, List.drop_zero, Nat.sub_zero, List.map_take, Int.toNat_natCast]
  rcases Nat.le_total k (xs.map f).length with q | q
  · rw [Nat.min_eq_left q]
  · rw [Nat.min_eq_right q, List.take_of_length_le q, List.take_of_length_le (Nat.le_refl _)]
theorem cut_drop {α : Type} {f : α → V} (xs : List α) {m : Int} (h : 0 ≤ m) : cutV (xs.map f) (some m) none = (xs.drop m.toNat).map f := by
  obtain ⟨k, rfl⟩ := Int.eq_ofNat_of_zero_le h
  unfold cutV
  rw [HT.sIx_none, HT.sIx_nat, List.map_drop, Int.toNat_natCast]
  rcases Nat.le_total k (xs.map f).length with q | q
  · rw [Nat.min_eq_left q, List.take_of_length_le (by rw [List.length_drop]; omega)]
  · rw [Nat.min_eq_right q, Nat.sub_self, List.take_zero, List.drop_of_length_le q]
/-! ### sorting -/
theorem insI_perm (x : Int) : ∀ l : List Int, (insI x l).Perm (x :: l)
  | [] => .refl _
  | y :: r => by
    unfold insI
    split
    · exact .refl _
    · exact ((insI_perm x r).cons y).trans (.swap x y r)
theorem sortI_perm : ∀ l : List Int, (sortI l).Perm l
  | [] => .refl _
  | x :: r => (insI_perm x (sortI r)).trans ((sortI_perm r).cons x)
theorem insI_sorted (x : Int) : ∀ l : List Int, l.Pairwise (· ≤ ·) → (insI x l).Pairwise (· ≤ ·)
  | [], _ => List.pairwise_singleton _ _
  | y :: r, h => by
    unfold insI
    split
    · rename_i c
      refine List.pairwise_cons.mpr ⟨fun z hz => ?_, h⟩
      rcases List.mem_cons.mp hz with q | q
      · rw [q]; exact c
      · exact Int.le_trans c ((List.pairwise_cons.mp h).1 z q)
    · rename_i c
      refine List.pairwise_cons.mpr ⟨fun z hz => ?_, insI_sorted x r (List.pairwise_cons.mp h).2⟩
      rcases List.mem_cons.mp ((insI_perm x r).mem_iff.mp hz) with q | q
      · rw [q]; omega
      · exact (List.pairwise_cons.mp h).1 z q
theorem sortI_sorted : ∀ l : List Int, (sortI l).Pairwise (· ≤ ·)
  | [] => List.Pairwise.nil
  | x :: r => insI_sorted x _ (sortI_sorted r)
theorem sort_eq {ys ks : List Int} (hp : ys.Perm ks) (hs : ys.Pairwise (· ≤ ·)) : ys = sortI ks :=
  List.Perm.eq_of_pairwise (fun x y _ _ h1 h2 => Int.le_antisymm h1 h2) hs (sortI_sorted ks) (hp.trans (sortI_perm ks).symm)
end Ws
set_option Elab.async false
set_option linter.all false
set_option maxRecDepth 100000
set_option maxHeartbeats 2000000
/-! Rules that the layer lacks: a list against [], sorted(d) of any length, a method of what a call gives. -/
namespace Ws
open PySem PySem.Spec PyProof.Rows L2
section
variable {X : Cx}
/-- xs == []: whatever the items are -/
def rEqN (K : PySem.W.Frag) : R2 := fun x y H Q => ∃ a b xs, x = .ref a ∧ y = .ref b ∧ SqL K H a xs ∧ SqL K H b [] ∧ Q (.bl xs.isEmpty) H
def rNeN (K : PySem.W.Frag) : R2 := fun x y H Q => ∃ a b xs, x = .ref a ∧ y = .ref b ∧ SqL K H a xs ∧ SqL K H b [] ∧ Q (.bl (!xs.isEmpty)) H
theorem op_eqN (hu : X.A.units + 64 < cLine) : OpR X (compareOp .Eq) (rEqN X.K) := by
  intro pins s σ H x y v u Q I rx ry h
  obtain ⟨a, b, xs, rfl, rfl, ha, hb, q⟩ := h
  cases rx
  cases ry
  obtain ⟨its, rv, p1, _⟩ := I.list ha
  obtain ⟨its2, rv2, p2, _⟩ := I.list hb
  cases rv2
  have hu2 : X.A.units < cLine := by omega
  cases xs with
  | nil =>
    cases rv
    exact SeqAt.RcAt.lists (e := fun _ => true) p1.isList p2.isList rfl hu2 (fun j h1 _ => absurd h1 (by simp)) X.prog X.w _ _ ⟨.bl true, H, I, rfl, q⟩
  | cons x xs =>
    cases rv with
    | cons r rr => exact SeqAt.RcAt.lists_lengths p1.isList p2.isList (by simp) hu2 X.prog X.w _ _ ⟨.bl false, H, I, rfl, q⟩
theorem op_neN (hu : X.A.units + 64 < cLine) : OpR X (compareOp .NotEq) (rNeN X.K) := by
  intro pins s σ H x y v u Q I rx ry h
  obtain ⟨a, b, xs, rfl, rfl, ha, hb, q⟩ := h
  cases rx
  cases ry
  obtain ⟨its, rv, p1, _⟩ := I.list ha
  obtain ⟨its2, rv2, p2, _⟩ := I.list hb
  cases rv2
  have hu2 : X.A.units < cLine := by omega
  cases xs with
  | nil =>
    cases rv
    exact SeqAt.RcNeAt.lists (e := fun _ => true) p1.isList p2.isList rfl hu2 (fun j h1 _ => absurd h1 (by simp)) X.prog X.w _ _ ⟨.bl false, H, I, rfl, q⟩
  | cons x xs =>
    cases rv with
    | cons r rr => exact SeqAt.RcNeAt.lists_lengths p1.isList p2.isList (by simp) hu2 X.prog X.w _ _ ⟨.bl true, H, I, rfl, q⟩
/-- sorted(d), all keys ints, any number of them -/
def rSortD : List V → Hp → VK → Prop := fun xs H Q => ∃ (a : Addr) (kvs : List (Key × V)) (ks : List Int), xs = [.ref a] ∧ Rd H a (.dK kvs) ∧ kvs.map (·.1) = ks.map Sum.inl ∧ ks.length ≤ sizeLine ∧
    ∀ (ys : List Int) (p : Addr), ys.Perm ks → ys.Pairwise (· ≤ ·) → H p = none → Q (.ref p) (upd H p (.lst (ys.map V.int)))
theorem cr_sortD (hcalm : X.calm = true) : CallR X (.builtin "sorted") rSortD := by
  intro pins s σ H xs us Q I r q
  obtain ⟨a, kvs, ks, ex, hd, hks, h64, q⟩ := q
  subst ex
  obtain ⟨u, eu, rx⟩ := vals1 r
  subst eu
  cases rx
  obtain ⟨z, lo, vs, rel, dd⟩ := dk_rd I.hok hd
  obtain ⟨ep, hat⟩ := dd.dictAt
  have hkeys : vs.map (·.1) = ks.map Sum.inl := rel.keys.symm.trans hks
  have hl : vs.length = ks.length := by
    have e := congrArg List.length hkeys
    rw [List.length_map, List.length_map] at e
    exact e
  have h16 : vs.length ≤ sizeLine := by rw [hl]; exact h64
  refine Calls.call_function_entry PyProof.Rows.kind_sorted PyProof.Rows.plain_sorted PyProof.Rows.entry_sorted (PyProof.Rows.args_sorted1 _) ?_
  unfold Builtin.«sorted»
  refine wpAny_bind (m := checkCount "sorted" 1 1 _) (wpAny_pure ?_)
  refine wpAny_bind (PySem.W.kdu_collect (A := X.A.in1) (PySem.W.kdl_dict (knd := mixKind X.prog X.w) (kvs := vs) (ep := ep) lo) (I.ok.hd hcalm) hat h16 fun h' tk acc hk hacc => ?_)
  have hal : acc.toList.length = ks.length := by rw [Array.length_toList, hacc.1, hl]
  have hS : IntsAre acc.toList ks := ints_each hal fun j v e => by
    obtain ⟨k, x, e1, e2⟩ := hacc.2 j v (by rw [← Array.getElem?_toList]; exact e)
    have e3 : (vs.map (·.1))[j]? = some k := by rw [List.getElem?_map, e1]; rfl
    rw [hkeys, List.getElem?_map] at e3
    cases e4 : ks[j]? with
    | none => rw [e4] at e3; cases e3
    | some y =>
      rw [e4] at e3
      have e5 : Sum.inl y = k := Option.some.inj e3
      subst e5
      rcases keyIs_shape (show keyIs (Sum.inl y) v = true from e2) with ⟨i, t, ek, ev⟩ | ⟨z, t, ek, ev⟩
      · cases ek
        exact ⟨y, t, rfl, ev⟩
      · cases ek
  have I1 : Inv X pins σ H { s with heap := h', toks := tk } := I.kept hk
  refine wpAny_bind (wpAny_newList ?_ (by rw [hal]; exact h64))
  have hoL : (h'.push (seqObj "list" acc.toList.toArray 0)).get? h'.objs.size = some (seqObj "list" acc.toList.toArray 0) := Heap.get?_push_size _ rfl
  show wpAny _ _ _ _ _ { s with heap := h'.push (seqObj "list" acc.toList.toArray 0), toks := tk }
  refine wpAny_bind (wpAny_holding (wpAny_call_entry PyProof.Rows.slot_list_sort ⟨_, hoL, rfl⟩ PyProof.Rows.entry_list_sort
    (SrtO.list_sort_ord (s := { s with heap := h'.push (seqObj "list" acc.toList.toArray 0), toks := tk }) SrtO.swo_int hoL (by rw [hal]; exact h64) (fun h2 => SrtO.ints_sortable hS h2) fun out h1 h2 => ⟨_, rfl, ?_⟩) (PyProof.Rows.args_list_sort _)))
  obtain ⟨k1, k2, k3⟩ := SrtO.ints_out hS h1 h2
  obtain ⟨e', he'⟩ := PyProof.Rows.sortedHeap_at (vs := acc.toList) (out := out.toArray) hoL
  have hlen : ((out.map SrtO.iv).map V.int).length ≤ sizeLine := by
    rw [List.length_map, k2.length_eq]
    exact h64
  refine wpAny_pure ⟨_, rfl, .ref h'.objs.size, upd H h'.objs.size (.lst ((out.map SrtO.iv).map V.int)), I1.laid (t' := tk) (fun b u e => ?_) (Nat.le_refl _)
    (show ObjOk X.prog X.w _ _ _ (.lst ((out.map SrtO.iv).map V.int)) from ⟨hlen, out, e', vals_of_ints k1, he'⟩), rfl, q _ _ k2 k3 (I1.hok.fresh (Nat.le_refl _))⟩
  have hb : b < h'.objs.size := Heap.lt_size e
  rw [PyProof.Rows.sortedHeap_old (Nat.ne_of_lt hb) (by rw [size_push']; exact Nat.lt_succ_of_lt hb)]
  exact Heap.get?_push_of_some _ e
/-- f(..).m(): the receiver is a call with arguments -/
theorem abase_callA {id attr : Str} {p pos : Pos} {a : Expr} {as : List Expr} {env : Env} {whole : Sem Value} : attributeBase (.Call (.Name id p) (a :: as) [] pos) attr env whole = whole := by
  unfold attributeBase
  rfl
end
end Ws
set_option Elab.async false
set_option linter.all false
set_option maxRecDepth 100000
set_option maxHeartbeats 2000000
/-! zip of a list and a tuple -/
namespace Ws
open PySem PySem.Spec PyProof.Rows L2
def ItzM (K : PySem.W.Frag) (a b : Addr) : It :=
  ⟨fun i H => ∃ (xs ys : List V) (x y : V), SqL K H a xs ∧ SqT K H b ys ∧ xs[i]? = some x ∧ ys[i]? = some y,
    fun i H v H' => ∃ T x y, v = .ref T ∧ H T = none ∧ H' = upd H T (.tup [x, y]) ∧ (∀ xs, SqL K H a xs → xs[i]? = some x) ∧ ∀ ys, SqT K H b ys → ys[i]? = some y,
    fun i H => ∃ xs ys : List V, SqL K H a xs ∧ SqT K H b ys ∧ xs.length = ys.length ∧ i = xs.length⟩
theorem turn_zipM {P : Program} {w : World} {K : PySem.W.Frag} {elts : List Expr} {kk : Nat} {tpos : Pos} {a b z TI TO i1 i2 : Addr} (D : ZipSep2 z TI TO i1 i2 [i1, a] [i2, b]) (ha1 : a ≠ i1) (hb2 : b ≠ i2) (h12 : i1 ≠ i2) :
    Turn P w K (.Tuple elts kk tpos) (ItzM K a b) [z, TI, TO, i1, i2] z (fun i h => IsZip h z TI TO .none ∧ IsTupOf2 h TI (.ref i1) (.ref i2) ∧ (∃ x y, IsTupOf2 h TO x y) ∧ h.IsListIter i1 a i ∧ h.IsTupleIter i2 b i) where
  mem := by simp
  obj := fun i h st c hc => by
    obtain ⟨hz, hTI, ⟨x, y, hTO⟩, ⟨o1, e1, _, d1⟩, ⟨o2, e2, _, d2⟩⟩ := st
    have e' : c = z ∨ c = TI ∨ c = TO ∨ c = i1 ∨ c = i2 := by simpa using hc
    rcases e' with q | q | q | q | q
    · rw [q]; exact ⟨_, hz, fun v q => nomatch q⟩
    · rw [q]; exact ⟨_, hTI, fun v q => nomatch q⟩
    · rw [q]; exact ⟨_, hTO, fun v q => nomatch q⟩
    · rw [q]; exact ⟨o1, e1, fun v q => by rw [d1] at q; cases q⟩
    · rw [q]; exact ⟨o2, e2, fun v q => by rw [d2] at q; cases q⟩
  keep := fun i h h' st k => by
    obtain ⟨hz, hTI, ⟨x, y, hTO⟩, h1, h2⟩ := st
    exact ⟨k z (by simp) _ hz, k TI (by simp) _ hTI, ⟨x, y, k TO (by simp) _ hTO⟩, h1.at fun o q => k i1 (by simp) o q, h2.at fun o q => k i2 (by simp) o q⟩
  item := by
    intro X hP hw hK hc i pins s σ H E I hf st hg
    subst hP hw hK
    obtain ⟨hz, hTI, ⟨x0, y0, hTO⟩, h1, h2⟩ := st
    obtain ⟨xs, ys, x, y, hqx, hqy, hx, hy⟩ := hg
    obtain ⟨its, rv, p, _⟩ := I.list hqx
    obtain ⟨its2, rv2, p2, _⟩ := I.tuple hqy
    obtain ⟨u, hu, ru⟩ := rv.get hx
    obtain ⟨u2, hu2, ru2⟩ := rv2.get hy
    have hzl : z < s.heap.objs.size := Heap.lt_size hz
    have hl1 : i < its.toArray.size := by simpa using (List.getElem?_eq_some_iff.mp hu).1
    have hl2 : i < its2.toArray.size := by simpa using (List.getElem?_eq_some_iff.mp hu2).1
    refine wpAny_pyNext_zipD2_item D (Draws.list (prog := X.prog) (w := X.w) (A := X.A.in1) (I.ok.hd hc) i1 a ha1 its.toArray) (Draws.tuple (prog := X.prog) (w := X.w) (A := X.A.in1) (I.ok.hd hc) i2 b hb2 its2.toArray) hz hTI hTO ⟨h1, p.isList⟩ ⟨h2, show s.heap.IsTuple b its2.toArray from p2⟩ hl1 hl2 fun x1 x2 h' tk y1 y2 z' TO' st1' st2' hT hsz hk => ?_
    have ex1 : x1 = u := by
      have q : its.toArray[i]? = some x1 := y1
      rw [List.getElem?_toArray, hu] at q
      exact (Option.some.inj q).symm
    have ex2 : x2 = u2 := by
      have q : its2.toArray[i]? = some x2 := y2
      rw [List.getElem?_toArray, hu2] at q
      exact (Option.some.inj q).symm
    subst ex1 ex2
    refine ⟨_, rfl, wpAny_letOwnedTupleGo_zip (s := { s with heap := h', toks := tk }) z' fun h'' z'' sb => ?_⟩
    have hT2 : h''.get? s.heap.objs.size = some { cls := .type "tuple", data := .seq #[x1, x2] } := (sb.2 _ (Nat.ne_of_gt hzl)).trans hT
    have new : ObjOk X.prog X.w (upd H s.heap.objs.size (.tup [x, y])) h'' s.heap.objs.size (.tup [x, y]) :=
      ⟨by show 2 ≤ sizeLine; decide, [x1, x2], .cons ru (.cons ru2 .nil), ⟨_, hT2, rfl, _, rfl⟩⟩
    have I1 : Inv X pins σ (upd H s.heap.objs.size (.tup [x, y])) { s with heap := h'', toks := tk } :=
      I.turnedNew (t' := tk) (ch := [z, TI, TO, i1, i2]) (fun c o hb q => (sb.2 c (fun q' => hb (by simp [q']))).trans (hk c o (fun q' => hb (by simp [q'])) (fun q' => hb (by simp [q'])) (fun q' => hb (by simp [q'])) (fun q' => hb (by simp [q'])) q)) hf (Nat.le_refl _) new
    refine ⟨.ref s.heap.objs.size, _, I1, rfl, ⟨_, x, y, rfl, I.hok.fresh (Nat.le_refl _), rfl, fun l hl => by rw [I.list_inj hl hqx]; exact hx, fun l hl => by rw [I.tuple_inj hl hqy]; exact hy⟩, ⟨z'', ?_, ⟨x1, x2, ?_⟩, ?_, ?_⟩, fun c hcm => ?_⟩
    · exact (sb.2 _ D.TIz).trans (hk _ _ D.TIz D.TITO D.TIi1 D.TIi2 hTI)
    · exact (sb.2 _ D.TOz).trans TO'
    · exact st1'.1.at fun o q => (sb.2 _ (Ne.symm D.zi1)).trans q
    · exact st2'.1.at fun o q => (sb.2 _ (Ne.symm D.zi2)).trans q
    · have hlt : c < s.heap.objs.size := by
        have e' : c = z ∨ c = TI ∨ c = TO ∨ c = i1 ∨ c = i2 := by simpa using hcm
        rcases e' with q | q | q | q | q
        · rw [q]; exact hzl
        · rw [q]; exact Heap.lt_size hTI
        · rw [q]; exact Heap.lt_size hTO
        · rw [q]; obtain ⟨_, e1, _⟩ := h1; exact Heap.lt_size e1
        · rw [q]; obtain ⟨_, e2, _⟩ := h2; exact Heap.lt_size e2
      rw [upd_ne (Nat.ne_of_lt hlt)]
      exact (hf c hcm).1
  done := by
    intro X hP hw hK hc i pins s σ H E I hf st hg
    subst hP hw hK
    obtain ⟨hz, hTI, ⟨x0, y0, hTO⟩, h1, h2⟩ := st
    obtain ⟨xs, ys, hqx, hqy, hll, hend⟩ := hg
    obtain ⟨its, rv, p, _⟩ := I.list hqx
    obtain ⟨its2, rv2, p2, _⟩ := I.tuple hqy
    have l1 := rv.length
    have l2 := rv2.length
    have n1 : i = its.toArray.size := by simp; omega
    have n2 : i = its2.toArray.size := by simp; omega
    refine wpAny_pyNext_zipD2_end D (Draws.list (prog := X.prog) (w := X.w) (A := X.A.in1) (I.ok.hd hc) i1 a ha1 its.toArray) (Draws.tuple (prog := X.prog) (w := X.w) (A := X.A.in1) (I.ok.hd hc) i2 b hb2 its2.toArray) hz hTI hTO ⟨h1, p.isList⟩ ⟨h2, show s.heap.IsTuple b its2.toArray from p2⟩ (Nat.le_of_eq n1) (Nat.le_of_eq n2) (.inl n1) fun h' tk hk => ⟨rfl, I.turnedL (t' := tk) (ch := [z, TI, TO, i1, i2]) (fun c o hb q =>
      hk c o (fun q' => hb (by simp [q'])) (fun q' => hb (by simp [q'])) (fun q' => hb (by simp [q'])) (fun q' => hb (by simp [q'])) q) hf⟩
  self := fun A i s Q E st h => wpAny_pyIter_zip st.1 h
def iZipM (K : PySem.W.Frag) (ta : TA) : TI := fun σ H R => ta σ H fun vs H1 => ∃ a b xs ys, vs = [.ref a, .ref b] ∧ SqL K H1 a xs ∧ SqT K H1 b ys ∧ R (ItzM K a b) H1
theorem pi_zipM {X : Cx} {e e2 : Expr} {ta : TA} {p pos tpos : Pos} {elts : List Expr} {kk : Nat} (hg : Gl X "zip") (hm : X.mg "zip" = none) (ha : PA X [e, e2] ta)
    (hs : starEach [e, e2] X.env = (false, eval e X.env) :: starEach [e2] X.env := by rfl) (hpl : (backTo pos (starEach [e2] X.env)).any (·.1) = false := by rfl) :
    PI X (.Tuple elts kk tpos) (.Call (.Name "zip" p) [e, e2] [] pos) (iZipM X.K ta) := by
  refine ⟨fun pins s σ H R I h => ?_⟩
  refine Call_ (ld_blt I hg hm PyProof.Rows.boot_zip (PyProof.Rows.callWith_type1 (thn (ha.run pos pins s σ H _ I h) fun us s1 ⟨vs, H1, I1, r1, q1⟩ => ?_) hs hpl))
  obtain ⟨a, b, xs, ys, ex, hqx, hqy, q⟩ := q1
  subst ex
  cases r1 with
  | cons r rr =>
    cases rr with
    | cons r' rr =>
      cases rr
      cases r
      cases r'
      obtain ⟨its, rv, p1, _⟩ := I1.list hqx
      obtain ⟨its2, rv2, p2, _⟩ := I1.tuple hqy
      obtain ⟨o2, ho2, _⟩ := id p2
      have la : a < s1.heap.objs.size := p1.lt
      have lb : b < s1.heap.objs.size := Heap.lt_size ho2
      refine zip_begins2 (begins_list a its.toArray) (begins_tuple b its2.toArray) p1.isList (show s1.heap.IsTuple b its2.toArray from p2) fun h' hz hTI hTO g1 g2 hsz hk => wpAny_pyIter_zip hz ?_
      have I2 : Inv X pins σ H1 { s1 with heap := h' } := I1.kept (t' := s1.toks) hk
      refine ⟨s1.heap.objs.size + 4, [s1.heap.objs.size + 4, s1.heap.objs.size + 2, s1.heap.objs.size + 3, s1.heap.objs.size, s1.heap.objs.size + 1], _, _, H1, rfl, I2,
        turn_zipM (zip_sep2 (fp1 := [a]) (fp2 := [b]) (fun c hc => by rw [List.mem_singleton.mp hc]; exact la) (fun c hc => by rw [List.mem_singleton.mp hc]; exact lb)) (Nat.ne_of_lt la) (Nat.ne_of_lt (Nat.lt_succ_of_lt lb)) (Nat.ne_of_lt (Nat.lt_succ_self _)), ⟨hz, hTI, ⟨_, _, hTO⟩, ⟨_, g1, rfl, rfl⟩, ⟨_, g2, rfl, rfl⟩⟩, fun c hcm => ?_, q⟩
      have e' : c = s1.heap.objs.size + 4 ∨ c = s1.heap.objs.size + 2 ∨ c = s1.heap.objs.size + 3 ∨ c = s1.heap.objs.size ∨ c = s1.heap.objs.size + 1 := by simpa using hcm
      have hle : s1.heap.objs.size ≤ c := by
        rcases e' with z | z | z | z | z
        · rw [z]; exact Nat.le_add_right _ _
        · rw [z]; exact Nat.le_add_right _ _
        · rw [z]; exact Nat.le_add_right _ _
        · rw [z]; exact Nat.le_refl _
        · rw [z]; exact Nat.le_add_right _ _
      exact I1.fpOk hle (I1.hok.fresh hle)
/-- a loop over zip of a list and a tuple of one length -/
theorem for_zipM {K : PySem.W.Frag} {a b : Addr} {xs ys : List V} {g : TG} {tb : TS} {D : Ends} {σ : L2.St} {H : Hp} (hl : xs.length = ys.length) (Pv : Nat → L2.St → Hp → Prop) (h0 : Pv 0 σ H) (hq : ∀ i σ H, Pv i σ H → SqL K H a xs ∧ SqT K H b ys)
    (hs : ∀ (i : Nat) (x y : V) (T : Addr) (σ : L2.St) (H : Hp), xs[i]? = some x → ys[i]? = some y → Pv i σ H → H T = none → g (.ref T) σ (upd H T (.tup [x, y])) fun σ2 H2 => tb { D with nx := Pv (i + 1), ct := Pv (i + 1), bk := D.nx } σ2 H2) (hd : ∀ σ H, Pv xs.length σ H → D.nx σ H) :
    ∃ W : Nat → Nat → L2.St → Hp → Prop, (∃ m, W 0 m σ H) ∧ ∀ i m σ H, W i m σ H →
      ((ItzM K a b).stop i H ∧ D.nx σ H) ∨ ((ItzM K a b).go i H ∧ ∃ N : L2.St → Hp → Prop, (∀ σ' H', N σ' H' → ∃ m', m' < m ∧ W (i + 1) m' σ' H') ∧ ∀ v H', (ItzM K a b).yld i H v H' → g v σ H' fun σ2 H2 => tb { D with nx := N, ct := N, bk := D.nx } σ2 H2) := by
  refine ⟨fun i m σ H => m = xs.length - i ∧ i ≤ xs.length ∧ Pv i σ H, ⟨xs.length, rfl, Nat.zero_le _, h0⟩, ?_⟩
  rintro i m σ H ⟨rfl, hi, p⟩
  obtain ⟨qx, qy⟩ := hq i σ H p
  by_cases hlt : i < xs.length
  · have hx : xs[i]? = some xs[i] := List.getElem?_eq_getElem hlt
    have hlt2 : i < ys.length := by omega
    have hy : ys[i]? = some ys[i] := List.getElem?_eq_getElem hlt2
    refine .inr ⟨⟨xs, ys, _, _, qx, qy, hx, hy⟩, Pv (i + 1), fun σ' H' p' => ⟨xs.length - (i + 1), by omega, rfl, hlt, p'⟩, fun v H' yl => ?_⟩
    obtain ⟨T, x, y, rfl, nT, rfl, ux, uy⟩ := yl
    exact hs i x y T σ H (ux xs qx) (uy ys qy) p nT
  · have e : i = xs.length := by omega
    subst e
    exact .inl ⟨⟨xs, ys, qx, qy, hl, rfl⟩, hd _ _ p⟩
end Ws
set_option Elab.async false
set_option linter.all false
set_option maxRecDepth 100000
set_option maxHeartbeats 2000000
namespace Ws
open PySem PySem.Spec PyProof.Rows L2 Wt
/-- the module's names -/
structure TxM (K : PySem.W.Frag) (mg : Str → Option Value) : Prop where
  tx : TxC K
  k_MODULUS : ∃ t, mg "MODULUS" = some (.int (65536) t)
  k_HALF : ∃ t, mg "HALF" = some (.int (32768) t)
  k_SYN : ∃ t, mg "SYN" = some (.int (1) t)
  k_FIN : ∃ t, mg "FIN" = some (.int (2) t)
  k_RESET : ∃ t, mg "RESET" = some (.int (4) t)
  k_ACKNOWLEDGEMENT : ∃ t, mg "ACKNOWLEDGEMENT" = some (.int (8) t)
  k_CLOSED : ∃ t, mg "CLOSED" = some (.int (0) t)
  k_LISTENING : ∃ t, mg "LISTENING" = some (.int (1) t)
  k_SYN_SENT : ∃ t, mg "SYN_SENT" = some (.int (2) t)
  k_SYN_RECEIVED : ∃ t, mg "SYN_RECEIVED" = some (.int (3) t)
  k_ESTABLISHED : ∃ t, mg "ESTABLISHED" = some (.int (4) t)
  k_FAILED : ∃ t, mg "FAILED" = some (.int (8) t)
  k_NO_FIN : ∃ t, mg "NO_FIN" = some (.int (-1) t)
  k_MOST_SEGMENTS : ∃ t, mg "MOST_SEGMENTS" = some (.int (60) t)
  k_MOST_BLOCKS : ∃ t, mg "MOST_BLOCKS" = some (.int (3) t)
  k_MOST_TIMEOUT : ∃ t, mg "MOST_TIMEOUT" = some (.int (60000) t)
  k_LEAST_TIMEOUT : ∃ t, mg "LEAST_TIMEOUT" = some (.int (20) t)
  k_MOST_CONGESTION : ∃ t, mg "MOST_CONGESTION" = some (.int (10000) t)
  k_ENOUGH_DUPLICATES : ∃ t, mg "ENOUGH_DUPLICATES" = some (.int (3) t)
  k_NO_SIDE : ∃ t, mg "NO_SIDE" = some (.int (-2) t)
  k_BEYOND : ∃ t, mg "BEYOND" = some (.int (-22) t)
  k_WRONG_STATE : ∃ t, mg "WRONG_STATE" = some (.int (-16) t)
  k_FULL : ∃ t, mg "FULL" = some (.int (-28) t)
  k_NO_TIMER : ∃ t, mg "NO_TIMER" = some (.int (-33) t)
  k_GREATEST_BYTE : ∃ t, mg "GREATEST_BYTE" = some (.int (255) t)
  k_LONGEST : ∃ t, mg "LONGEST" = some (.int (100000) t)
  k_MOST_EXPIRED : ∃ t, mg "MOST_EXPIRED" = some (.int (10000) t)
  k_MOST_FATES : ∃ t, mg "MOST_FATES" = some (.int (64) t)
  k_NO_LINK : ∃ t, mg "NO_LINK" = some (.int (-11) t)
  k_CREATE : ∃ t, mg "CREATE" = some (.int (0) t)
  k_WRITE : ∃ t, mg "WRITE" = some (.int (2) t)
  k_RUN : ∃ t, mg "RUN" = some (.int (15) t)
  b_len : mg "len" = none
  b_max : mg "max" = none
  b_min : mg "min" = none
  b_sum : mg "sum" = none
  b_sorted : mg "sorted" = none
  b_range : mg "range" = none
  b_int : mg "int" = none
  b_zip : mg "zip" = none
  b_abs : mg "abs" = none
  t_COUNTS : mg "COUNTS" = some (.ref (He.ga K "COUNTS"))
  t_LIMITS : mg "LIMITS" = some (.ref (He.ga K "LIMITS"))
/-- all defs as the head leaves them -/
structure DefsOk (K : PySem.W.Frag) (mg : Str → Option Value) : Prop where
  m : TxM K mg
  d_Segment_init : ∃ fd, FunD K "__init__" "Segment.__init__" (defArgs s_Segment_init) (defBody s_Segment_init) (defScope s_Segment_init) [] [] (He.ma K (He.ga K "Segment") "__init__") fd
  mk_Segment : Mk K (He.ga K "Segment") (He.ma K (He.ga K "Segment") "__init__")
  g_Segment : mg "Segment" = some (.ref (He.ga K "Segment"))
  d_Segment_has_flag : ∃ fd, FunD K "has_flag" "Segment.has_flag" (defArgs s_Segment_has_flag) (defBody s_Segment_has_flag) (defScope s_Segment_has_flag) [] [] (He.ma K (He.ga K "Segment") "has_flag") fd
  me_Segment_has_flag : Meth K (He.ga K "Segment") "has_flag" (He.ma K (He.ga K "Segment") "has_flag")
  d_Segment_size : ∃ fd, FunD K "size" "Segment.size" (defArgs s_Segment_size) (defBody s_Segment_size) (defScope s_Segment_size) [] [] (He.ma K (He.ga K "Segment") "size") fd
  me_Segment_size : Meth K (He.ga K "Segment") "size" (He.ma K (He.ga K "Segment") "size")
  d_Part_init : ∃ fd, FunD K "__init__" "Part.__init__" (defArgs s_Part_init) (defBody s_Part_init) (defScope s_Part_init) [] [] (He.ma K (He.ga K "Part") "__init__") fd
  mk_Part : Mk K (He.ga K "Part") (He.ma K (He.ga K "Part") "__init__")
  g_Part : mg "Part" = some (.ref (He.ga K "Part"))
  d_Part_end : ∃ fd, FunD K "end" "Part.end" (defArgs s_Part_end) (defBody s_Part_end) (defScope s_Part_end) [] [] (He.ma K (He.ga K "Part") "end") fd
  me_Part_end : Meth K (He.ga K "Part") "end" (He.ma K (He.ga K "Part") "end")
  d_Endpoint_init : ∃ fd, FunD K "__init__" "Endpoint.__init__" (defArgs s_Endpoint_init) (defBody s_Endpoint_init) (defScope s_Endpoint_init) [] [] (He.ma K (He.ga K "Endpoint") "__init__") fd
  mk_Endpoint : Mk K (He.ga K "Endpoint") (He.ma K (He.ga K "Endpoint") "__init__")
  g_Endpoint : mg "Endpoint" = some (.ref (He.ga K "Endpoint"))
  d_Endpoint_in_flight : ∃ fd, FunD K "in_flight" "Endpoint.in_flight" (defArgs s_Endpoint_in_flight) (defBody s_Endpoint_in_flight) (defScope s_Endpoint_in_flight) [] [] (He.ma K (He.ga K "Endpoint") "in_flight") fd
  me_Endpoint_in_flight : Meth K (He.ga K "Endpoint") "in_flight" (He.ma K (He.ga K "Endpoint") "in_flight")
  d_Endpoint_shown_state : ∃ fd, FunD K "shown_state" "Endpoint.shown_state" (defArgs s_Endpoint_shown_state) (defBody s_Endpoint_shown_state) (defScope s_Endpoint_shown_state) [] [] (He.ma K (He.ga K "Endpoint") "shown_state") fd
  me_Endpoint_shown_state : Meth K (He.ga K "Endpoint") "shown_state" (He.ma K (He.ga K "Endpoint") "shown_state")
  d_Endpoint_held_bytes : ∃ fd, FunD K "held_bytes" "Endpoint.held_bytes" (defArgs s_Endpoint_held_bytes) (defBody s_Endpoint_held_bytes) (defScope s_Endpoint_held_bytes) [] [] (He.ma K (He.ga K "Endpoint") "held_bytes") fd
  me_Endpoint_held_bytes : Meth K (He.ga K "Endpoint") "held_bytes" (He.ma K (He.ga K "Endpoint") "held_bytes")
  d_Endpoint_first_unmarked : ∃ fd, FunD K "first_unmarked" "Endpoint.first_unmarked" (defArgs s_Endpoint_first_unmarked) (defBody s_Endpoint_first_unmarked) (defScope s_Endpoint_first_unmarked) [] [] (He.ma K (He.ga K "Endpoint") "first_unmarked") fd
  me_Endpoint_first_unmarked : Meth K (He.ga K "Endpoint") "first_unmarked" (He.ma K (He.ga K "Endpoint") "first_unmarked")
  d_Endpoint_fail : ∃ fd, FunD K "fail" "Endpoint.fail" (defArgs s_Endpoint_fail) (defBody s_Endpoint_fail) (defScope s_Endpoint_fail) [] [] (He.ma K (He.ga K "Endpoint") "fail") fd
  me_Endpoint_fail : Meth K (He.ga K "Endpoint") "fail" (He.ma K (He.ga K "Endpoint") "fail")
  d_Endpoint_early_ranges : ∃ fd, FunD K "early_ranges" "Endpoint.early_ranges" (defArgs s_Endpoint_early_ranges) (defBody s_Endpoint_early_ranges) (defScope s_Endpoint_early_ranges) [] [] (He.ma K (He.ga K "Endpoint") "early_ranges") fd
  me_Endpoint_early_ranges : Meth K (He.ga K "Endpoint") "early_ranges" (He.ma K (He.ga K "Endpoint") "early_ranges")
  d_Settings_init : ∃ fd, FunD K "__init__" "Settings.__init__" (defArgs s_Settings_init) (defBody s_Settings_init) (defScope s_Settings_init) [] [] (He.ma K (He.ga K "Settings") "__init__") fd
  mk_Settings : Mk K (He.ga K "Settings") (He.ma K (He.ga K "Settings") "__init__")
  g_Settings : mg "Settings" = some (.ref (He.ga K "Settings"))
  d_Link_init : ∃ fd, FunD K "__init__" "Link.__init__" (defArgs s_Link_init) (defBody s_Link_init) (defScope s_Link_init) [] [] (He.ma K (He.ga K "Link") "__init__") fd
  mk_Link : Mk K (He.ga K "Link") (He.ma K (He.ga K "Link") "__init__")
  g_Link : mg "Link" = some (.ref (He.ga K "Link"))
  d_Link_window_of : ∃ fd, FunD K "window_of" "Link.window_of" (defArgs s_Link_window_of) (defBody s_Link_window_of) (defScope s_Link_window_of) [] [] (He.ma K (He.ga K "Link") "window_of") fd
  me_Link_window_of : Meth K (He.ga K "Link") "window_of" (He.ma K (He.ga K "Link") "window_of")
  d_sequence_of : ∃ fd, FunD K "sequence_of" "sequence_of" (defArgs s_sequence_of) (defBody s_sequence_of) (defScope s_sequence_of) [] [] (He.ga K "sequence_of") fd
  g_sequence_of : mg "sequence_of" = some (.ref (He.ga K "sequence_of"))
  d_position_of : ∃ fd, FunD K "position_of" "position_of" (defArgs s_position_of) (defBody s_position_of) (defScope s_position_of) [] [] (He.ga K "position_of") fd
  g_position_of : mg "position_of" = some (.ref (He.ga K "position_of"))
  d_transmit : ∃ fd, FunD K "transmit" "transmit" (defArgs s_transmit) (defBody s_transmit) (defScope s_transmit) [] [] (He.ga K "transmit") fd
  g_transmit : mg "transmit" = some (.ref (He.ga K "transmit"))
  d_send_acknowledgement : ∃ fd, FunD K "send_acknowledgement" "send_acknowledgement" (defArgs s_send_acknowledgement) (defBody s_send_acknowledgement) (defScope s_send_acknowledgement) [] [] (He.ga K "send_acknowledgement") fd
  g_send_acknowledgement : mg "send_acknowledgement" = some (.ref (He.ga K "send_acknowledgement"))
  d_transmit_part : ∃ fd, FunD K "transmit_part" "transmit_part" (defArgs s_transmit_part) (defBody s_transmit_part) (defScope s_transmit_part) [] [] (He.ga K "transmit_part") fd
  g_transmit_part : mg "transmit_part" = some (.ref (He.ga K "transmit_part"))
  d_start_timer : ∃ fd, FunD K "start_timer" "start_timer" (defArgs s_start_timer) (defBody s_start_timer) (defScope s_start_timer) [] [] (He.ga K "start_timer") fd
  g_start_timer : mg "start_timer" = some (.ref (He.ga K "start_timer"))
  d_send_part : ∃ fd, FunD K "send_part" "send_part" (defArgs s_send_part) (defBody s_send_part) (defScope s_send_part) [] [] (He.ga K "send_part") fd
  g_send_part : mg "send_part" = some (.ref (He.ga K "send_part"))
  d_send_bytes : ∃ fd, FunD K "send_bytes" "send_bytes" (defArgs s_send_bytes) (defBody s_send_bytes) (defScope s_send_bytes) [] [] (He.ga K "send_bytes") fd
  g_send_bytes : mg "send_bytes" = some (.ref (He.ga K "send_bytes"))
  d_allowance_of : ∃ fd, FunD K "allowance_of" "allowance_of" (defArgs s_allowance_of) (defBody s_allowance_of) (defScope s_allowance_of) [] [] (He.ga K "allowance_of") fd
  g_allowance_of : mg "allowance_of" = some (.ref (He.ga K "allowance_of"))
  d_output : ∃ fd, FunD K "output" "output" (defArgs s_output) (defBody s_output) (defScope s_output) [] [] (He.ga K "output") fd
  g_output : mg "output" = some (.ref (He.ga K "output"))
  d_retransmit : ∃ fd, FunD K "retransmit" "retransmit" (defArgs s_retransmit) (defBody s_retransmit) (defScope s_retransmit) [] [] (He.ga K "retransmit") fd
  g_retransmit : mg "retransmit" = some (.ref (He.ga K "retransmit"))
  d_halved : ∃ fd, FunD K "halved" "halved" (defArgs s_halved) (defBody s_halved) (defScope s_halved) [] [] (He.ga K "halved") fd
  g_halved : mg "halved" = some (.ref (He.ga K "halved"))
  d_double_timeout : ∃ fd, FunD K "double_timeout" "double_timeout" (defArgs s_double_timeout) (defBody s_double_timeout) (defScope s_double_timeout) [] [] (He.ga K "double_timeout") fd
  g_double_timeout : mg "double_timeout" = some (.ref (He.ga K "double_timeout"))
  d_expire : ∃ fd, FunD K "expire" "expire" (defArgs s_expire) (defBody s_expire) (defScope s_expire) [] [] (He.ga K "expire") fd
  g_expire : mg "expire" = some (.ref (He.ga K "expire"))
  d_next_endpoint : ∃ fd, FunD K "next_endpoint" "next_endpoint" (defArgs s_next_endpoint) (defBody s_next_endpoint) (defScope s_next_endpoint) [] [] (He.ga K "next_endpoint") fd
  g_next_endpoint : mg "next_endpoint" = some (.ref (He.ga K "next_endpoint"))
  d_fire : ∃ fd, FunD K "fire" "fire" (defArgs s_fire) (defBody s_fire) (defScope s_fire) [] [] (He.ga K "fire") fd
  g_fire : mg "fire" = some (.ref (He.ga K "fire"))
  d_receive : ∃ fd, FunD K "receive" "receive" (defArgs s_receive) (defBody s_receive) (defScope s_receive) [] [] (He.ga K "receive") fd
  g_receive : mg "receive" = some (.ref (He.ga K "receive"))
  d_receive_reset : ∃ fd, FunD K "receive_reset" "receive_reset" (defArgs s_receive_reset) (defBody s_receive_reset) (defScope s_receive_reset) [] [] (He.ga K "receive_reset") fd
  g_receive_reset : mg "receive_reset" = some (.ref (He.ga K "receive_reset"))
  d_take_syn : ∃ fd, FunD K "take_syn" "take_syn" (defArgs s_take_syn) (defBody s_take_syn) (defScope s_take_syn) [] [] (He.ga K "take_syn") fd
  g_take_syn : mg "take_syn" = some (.ref (He.ga K "take_syn"))
  d_confirms_syn : ∃ fd, FunD K "confirms_syn" "confirms_syn" (defArgs s_confirms_syn) (defBody s_confirms_syn) (defScope s_confirms_syn) [] [] (He.ga K "confirms_syn") fd
  g_confirms_syn : mg "confirms_syn" = some (.ref (He.ga K "confirms_syn"))
  d_receive_listening : ∃ fd, FunD K "receive_listening" "receive_listening" (defArgs s_receive_listening) (defBody s_receive_listening) (defScope s_receive_listening) [] [] (He.ga K "receive_listening") fd
  g_receive_listening : mg "receive_listening" = some (.ref (He.ga K "receive_listening"))
  d_receive_syn_sent : ∃ fd, FunD K "receive_syn_sent" "receive_syn_sent" (defArgs s_receive_syn_sent) (defBody s_receive_syn_sent) (defScope s_receive_syn_sent) [] [] (He.ga K "receive_syn_sent") fd
  g_receive_syn_sent : mg "receive_syn_sent" = some (.ref (He.ga K "receive_syn_sent"))
  d_receive_syn_received : ∃ fd, FunD K "receive_syn_received" "receive_syn_received" (defArgs s_receive_syn_received) (defBody s_receive_syn_received) (defScope s_receive_syn_received) [] [] (He.ga K "receive_syn_received") fd
  g_receive_syn_received : mg "receive_syn_received" = some (.ref (He.ga K "receive_syn_received"))
  d_receive_established : ∃ fd, FunD K "receive_established" "receive_established" (defArgs s_receive_established) (defBody s_receive_established) (defScope s_receive_established) [] [] (He.ga K "receive_established") fd
  g_receive_established : mg "receive_established" = some (.ref (He.ga K "receive_established"))
  d_receive_confirmation : ∃ fd, FunD K "receive_confirmation" "receive_confirmation" (defArgs s_receive_confirmation) (defBody s_receive_confirmation) (defScope s_receive_confirmation) [] [] (He.ga K "receive_confirmation") fd
  g_receive_confirmation : mg "receive_confirmation" = some (.ref (He.ga K "receive_confirmation"))
  d_mark_parts : ∃ fd, FunD K "mark_parts" "mark_parts" (defArgs s_mark_parts) (defBody s_mark_parts) (defScope s_mark_parts) [] [] (He.ga K "mark_parts") fd
  g_mark_parts : mg "mark_parts" = some (.ref (He.ga K "mark_parts"))
  d_count_duplicate : ∃ fd, FunD K "count_duplicate" "count_duplicate" (defArgs s_count_duplicate) (defBody s_count_duplicate) (defScope s_count_duplicate) [] [] (He.ga K "count_duplicate") fd
  g_count_duplicate : mg "count_duplicate" = some (.ref (He.ga K "count_duplicate"))
  d_accept : ∃ fd, FunD K "accept" "accept" (defArgs s_accept) (defBody s_accept) (defScope s_accept) [] [] (He.ga K "accept") fd
  g_accept : mg "accept" = some (.ref (He.ga K "accept"))
  d_take_early : ∃ fd, FunD K "take_early" "take_early" (defArgs s_take_early) (defBody s_take_early) (defScope s_take_early) [] [] (He.ga K "take_early") fd
  g_take_early : mg "take_early" = some (.ref (He.ga K "take_early"))
  d_measure : ∃ fd, FunD K "measure" "measure" (defArgs s_measure) (defBody s_measure) (defScope s_measure) [] [] (He.ga K "measure") fd
  g_measure : mg "measure" = some (.ref (He.ga K "measure"))
  d_grow : ∃ fd, FunD K "grow" "grow" (defArgs s_grow) (defBody s_grow) (defScope s_grow) [] [] (He.ga K "grow") fd
  g_grow : mg "grow" = some (.ref (He.ga K "grow"))
  d_acknowledge : ∃ fd, FunD K "acknowledge" "acknowledge" (defArgs s_acknowledge) (defBody s_acknowledge) (defScope s_acknowledge) [] [] (He.ga K "acknowledge") fd
  g_acknowledge : mg "acknowledge" = some (.ref (He.ga K "acknowledge"))
  d_made_link : ∃ fd, FunD K "made_link" "made_link" (defArgs s_made_link) (defBody s_made_link) (defScope s_made_link) [] [] (He.ga K "made_link") fd
  g_made_link : mg "made_link" = some (.ref (He.ga K "made_link"))
  d_connect : ∃ fd, FunD K "connect" "connect" (defArgs s_connect) (defBody s_connect) (defScope s_connect) [] [] (He.ga K "connect") fd
  g_connect : mg "connect" = some (.ref (He.ga K "connect"))
  d_is_barred : ∃ fd, FunD K "is_barred" "is_barred" (defArgs s_is_barred) (defBody s_is_barred) (defScope s_is_barred) [] [] (He.ga K "is_barred") fd
  g_is_barred : mg "is_barred" = some (.ref (He.ga K "is_barred"))
  d_write : ∃ fd, FunD K "write" "write" (defArgs s_write) (defBody s_write) (defScope s_write) [] [] (He.ga K "write") fd
  g_write : mg "write" = some (.ref (He.ga K "write"))
  d_read : ∃ fd, FunD K "read" "read" (defArgs s_read) (defBody s_read) (defScope s_read) [] [] (He.ga K "read") fd
  g_read : mg "read" = some (.ref (He.ga K "read"))
  d_close : ∃ fd, FunD K "close" "close" (defArgs s_close) (defBody s_close) (defScope s_close) [] [] (He.ga K "close") fd
  g_close : mg "close" = some (.ref (He.ga K "close"))
  d_abort : ∃ fd, FunD K "abort" "abort" (defArgs s_abort) (defBody s_abort) (defScope s_abort) [] [] (He.ga K "abort") fd
  g_abort : mg "abort" = some (.ref (He.ga K "abort"))
  d_list_segments : ∃ fd, FunD K "list_segments" "list_segments" (defArgs s_list_segments) (defBody s_list_segments) (defScope s_list_segments) [] [] (He.ga K "list_segments") fd
  g_list_segments : mg "list_segments" = some (.ref (He.ga K "list_segments"))
  d_show_segment : ∃ fd, FunD K "show_segment" "show_segment" (defArgs s_show_segment) (defBody s_show_segment) (defScope s_show_segment) [] [] (He.ga K "show_segment") fd
  g_show_segment : mg "show_segment" = some (.ref (He.ga K "show_segment"))
  d_deliver : ∃ fd, FunD K "deliver" "deliver" (defArgs s_deliver) (defBody s_deliver) (defScope s_deliver) [] [] (He.ga K "deliver") fd
  g_deliver : mg "deliver" = some (.ref (He.ga K "deliver"))
  d_drop : ∃ fd, FunD K "drop" "drop" (defArgs s_drop) (defBody s_drop) (defScope s_drop) [] [] (He.ga K "drop") fd
  g_drop : mg "drop" = some (.ref (He.ga K "drop"))
  d_copy_segment : ∃ fd, FunD K "copy_segment" "copy_segment" (defArgs s_copy_segment) (defBody s_copy_segment) (defScope s_copy_segment) [] [] (He.ga K "copy_segment") fd
  g_copy_segment : mg "copy_segment" = some (.ref (He.ga K "copy_segment"))
  d_postpone : ∃ fd, FunD K "postpone" "postpone" (defArgs s_postpone) (defBody s_postpone) (defScope s_postpone) [] [] (He.ga K "postpone") fd
  g_postpone : mg "postpone" = some (.ref (He.ga K "postpone"))
  d_segment_deed : ∃ fd, FunD K "segment_deed" "segment_deed" (defArgs s_segment_deed) (defBody s_segment_deed) (defScope s_segment_deed) [] [] (He.ga K "segment_deed") fd
  g_segment_deed : mg "segment_deed" = some (.ref (He.ga K "segment_deed"))
  d_advance : ∃ fd, FunD K "advance" "advance" (defArgs s_advance) (defBody s_advance) (defScope s_advance) [] [] (He.ga K "advance") fd
  g_advance : mg "advance" = some (.ref (He.ga K "advance"))
  d_next_timer : ∃ fd, FunD K "next_timer" "next_timer" (defArgs s_next_timer) (defBody s_next_timer) (defScope s_next_timer) [] [] (He.ga K "next_timer") fd
  g_next_timer : mg "next_timer" = some (.ref (He.ga K "next_timer"))
  d_fire_timer : ∃ fd, FunD K "fire_timer" "fire_timer" (defArgs s_fire_timer) (defBody s_fire_timer) (defScope s_fire_timer) [] [] (He.ga K "fire_timer") fd
  g_fire_timer : mg "fire_timer" = some (.ref (He.ga K "fire_timer"))
  d_step : ∃ fd, FunD K "step" "step" (defArgs s_step) (defBody s_step) (defScope s_step) [] [] (He.ga K "step") fd
  g_step : mg "step" = some (.ref (He.ga K "step"))
  d_run : ∃ fd, FunD K "run" "run" (defArgs s_run) (defBody s_run) (defScope s_run) [] [] (He.ga K "run") fd
  g_run : mg "run" = some (.ref (He.ga K "run"))
  d_status : ∃ fd, FunD K "status" "status" (defArgs s_status) (defBody s_status) (defScope s_status) [] [] (He.ga K "status") fd
  g_status : mg "status" = some (.ref (He.ga K "status"))
  d_congestion : ∃ fd, FunD K "congestion" "congestion" (defArgs s_congestion) (defBody s_congestion) (defScope s_congestion) [] [] (He.ga K "congestion") fd
  g_congestion : mg "congestion" = some (.ref (He.ga K "congestion"))
  d_list_outstanding : ∃ fd, FunD K "list_outstanding" "list_outstanding" (defArgs s_list_outstanding) (defBody s_list_outstanding) (defScope s_list_outstanding) [] [] (He.ga K "list_outstanding") fd
  g_list_outstanding : mg "list_outstanding" = some (.ref (He.ga K "list_outstanding"))
  d_show_ranges : ∃ fd, FunD K "show_ranges" "show_ranges" (defArgs s_show_ranges) (defBody s_show_ranges) (defScope s_show_ranges) [] [] (He.ga K "show_ranges") fd
  g_show_ranges : mg "show_ranges" = some (.ref (He.ga K "show_ranges"))
  d_totals : ∃ fd, FunD K "totals" "totals" (defArgs s_totals) (defBody s_totals) (defScope s_totals) [] [] (He.ga K "totals") fd
  g_totals : mg "totals" = some (.ref (He.ga K "totals"))
  d_statistics : ∃ fd, FunD K "statistics" "statistics" (defArgs s_statistics) (defBody s_statistics) (defScope s_statistics) [] [] (He.ga K "statistics") fd
  g_statistics : mg "statistics" = some (.ref (He.ga K "statistics"))
  d_side_change : ∃ fd, FunD K "side_change" "side_change" (defArgs s_side_change) (defBody s_side_change) (defScope s_side_change) [] [] (He.ga K "side_change") fd
  g_side_change : mg "side_change" = some (.ref (He.ga K "side_change"))
  d_side_question : ∃ fd, FunD K "side_question" "side_question" (defArgs s_side_question) (defBody s_side_question) (defScope s_side_question) [] [] (He.ga K "side_question") fd
  g_side_question : mg "side_question" = some (.ref (He.ga K "side_question"))
  d_clock_deed : ∃ fd, FunD K "clock_deed" "clock_deed" (defArgs s_clock_deed) (defBody s_clock_deed) (defScope s_clock_deed) [] [] (He.ga K "clock_deed") fd
  g_clock_deed : mg "clock_deed" = some (.ref (He.ga K "clock_deed"))
  d_deed : ∃ fd, FunD K "deed" "deed" (defArgs s_deed) (defBody s_deed) (defScope s_deed) [] [] (He.ga K "deed") fd
  g_deed : mg "deed" = some (.ref (He.ga K "deed"))
  d_answers : ∃ fd, FunD K "answers" "answers" (defArgs s_answers) (defBody s_answers) (defScope s_answers) [] [] (He.ga K "answers") fd
  g_answers : mg "answers" = some (.ref (He.ga K "answers"))
/-- a def at its name keeps its promise -/
structure OkF (P : Program) (w : World) (K : PySem.W.Frag) (mg : Str → Option Value) (base : Heap) (x : Str) (k : Nat) (ps : List Str) (sp : Sp) : Prop where
  ok : ∃ fd, FnOk P w K mg base CX0 k (He.ga K x) fd ps sp ∧ Binds K fd ps []
  g : mg x = some (.ref (He.ga K x))
  kp : PySem.W.keepIn K (.ref (He.ga K x)) = true
/-- a method of the class C -/
structure OkM (P : Program) (w : World) (K : PySem.W.Frag) (mg : Str → Option Value) (base : Heap) (C : Addr) (m : Str) (k : Nat) (ps : List Str) (sp : Sp) : Prop where
  ok : ∃ fd, FnOk P w K mg base CX0 k (He.ma K C m) fd ps sp ∧ Binds K fd ps []
  me : Meth K C m (He.ma K C m)
  cl : Cls K C
/-- a class and its __init__ -/
structure OkI (P : Program) (w : World) (K : PySem.W.Frag) (mg : Str → Option Value) (base : Heap) (x : Str) (k : Nat) (ps : List Str) (sp : Sp) : Prop where
  ok : ∃ fd, FnOk P w K mg base CX0 k (He.ma K (He.ga K x) "__init__") fd ps sp ∧ Binds K fd ps []
  maker : Mk K (He.ga K x) (He.ma K (He.ga K x) "__init__")
  g : mg x = some (.ref (He.ga K x))
section
variable {X : Cx} {k : Nat} {C : Addr} {ps : List Str} {sp : Sp} {x m : Str} {p pos apos : Pos} {e o : Expr} {es : List Expr} {ta : TE} {t : TA}
theorem c_call (F : OkF X.prog X.w X.K X.mg X.base x k ps sp) (hr : Room k X.A) (hg : Gl X x) (ha : PA X (e :: es) t) (hdb : (x == ("__debug__" : Str)) = false := by decide) (he : starEach (e :: es) X.env = (false, eval e X.env) :: starEach es X.env := by rfl) (hpl : (backTo pos (starEach es X.env)).any (·.1) = false := by rfl) :
    PE X (.Call (.Name x p) (e :: es) [] pos) (tCall sp [] E0 t) := by
  obtain ⟨fd, G, b⟩ := F.ok
  exact pe_call G hr hg F.g F.kp b .nil pass0 ha hdb he hpl
theorem c_meth {pl : Sem Bool} (F : OkM X.prog X.w X.K X.mg X.base C m k ps sp) (hr : Room k X.A) (ho : PE X o ta) (ha : PA X (e :: es) t)
    (hst : starEach (e :: es) X.env = (false, eval e X.env) :: starEach es X.env := by rfl) (hpl : (backTo pos (starEach es X.env)).any (·.1) = false := by rfl)
    (ht : eval (.Call (.Attribute o m apos) (e :: es) [] pos) X.env = (do
      let ov ← eval o X.env
      standAt apos.atName
      let (f, first) ← holding [ov] (getMethod ov m pl)
      callWith pos f first (backTo pos (starEach (e :: es) X.env)) (backToKw pos (keywordEach [] X.env))) := by rfl) :
    PE X (.Call (.Attribute o m apos) (e :: es) [] pos) (tMeth C m sp [] E0 ta t) := by
  obtain ⟨fd, G, b⟩ := F.ok
  exact pe_meth ho F.cl F.me G hr b .nil pass0 ha hst hpl ht
theorem c_meth0 {pl : Sem Bool} (F : OkM X.prog X.w X.K X.mg X.base C m k ps sp) (hr : Room k X.A) (ho : PE X o ta)
    (ht : eval (.Call (.Attribute o m apos) [] [] pos) X.env = (do
      let ov ← eval o X.env
      standAt apos.atName
      let (f, first) ← holding [ov] (getMethod ov m pl)
      callWith pos f first (backTo pos (starEach [] X.env)) (backToKw pos (keywordEach [] X.env))) := by rfl) :
    PE X (.Call (.Attribute o m apos) [] [] pos) (tMeth C m sp [] E0 ta tNil) := by
  obtain ⟨fd, G, b⟩ := F.ok
  exact pe_meth0 ho F.cl F.me G hr b .nil pass0 ht
theorem c_make (F : OkI X.prog X.w X.K X.mg X.base x k ps sp) (hr : Room (k + 1) X.A) (hg : Gl X x) (ha : PA X (e :: es) t) (hdb : (x == ("__debug__" : Str)) = false := by decide) (he : starEach (e :: es) X.env = (false, eval e X.env) :: starEach es X.env := by rfl) (hpl : (backTo pos (starEach es X.env)).any (·.1) = false := by rfl) :
    PE X (.Call (.Name x p) (e :: es) [] pos) (tMake (He.ga X.K x) sp [] E0 t) := by
  obtain ⟨fd, G, b⟩ := F.ok
  exact pe_make F.maker G hr hg F.g b .nil pass0 ha hdb he hpl
theorem pt_isN {a : Expr} {ta : TE} {j pos'} (ha : PE X a ta) : PT X (.Compare a [.Is] [.Constant .none j pos'] pos) (tB (tIsN ta)) := pt_cmp (pc_isN ha) rfl
theorem pt_notN {a : Expr} {ta : TE} {j pos'} (ha : PE X a ta) : PT X (.Compare a [.IsNot] [.Constant .none j pos'] pos) (tB (tNotN ta)) := pt_cmp (pc_notN ha) rfl
theorem pe_isN {a : Expr} {ta : TE} {j pos'} (ha : PE X a ta) : PE X (.Compare a [.Is] [.Constant .none j pos'] pos) (tIsN ta) := pe_cmp (pc_isN ha) rfl
theorem bt_len : bootBuiltins "len" = some (.builtin "len") := by decide +kernel
theorem bt_max : bootBuiltins "max" = some (.builtin "max") := by decide +kernel
theorem bt_min : bootBuiltins "min" = some (.builtin "min") := by decide +kernel
theorem bt_sum : bootBuiltins "sum" = some (.builtin "sum") := by decide +kernel
theorem bt_abs : bootBuiltins "abs" = some (.builtin "abs") := by decide +kernel
theorem bt_sorted : bootBuiltins "sorted" = some (.builtin "sorted") := by decide +kernel
theorem bt_int : bootBuiltins "int" = some (.type "int") := by decide +kernel
theorem pe_fldK {K : PySem.W.Frag} {f : Str} (hK : X.K = K) (he : PE X e ta) (hb : attributeBase e f X.env (eval e X.env) = eval e X.env) : PE X (.Attribute e f pos) (tFld K ta f) := hK ▸ pe_fld he hb
theorem call_len_seqK {K : PySem.W.Frag} (hK : X.K = K) : CallR X (.builtin "len") (fun xs H Q => ∃ p ys, xs = [.ref p] ∧ (SqL K H p ys ∨ SqT K H p ys) ∧ Q (.int ys.length) H) := hK ▸ call_len_seq
theorem pe_gref {a : Addr} (h : X.mg x = some (.ref a)) (hg : Gl X x := by rfl) (hd : (x == ("__debug__" : Str)) = false := by decide) : PE X (.Name x pos) (tC (.ref a)) := pe_glob hg h rfl hd
theorem pe_kon {i : Int} (h : ∃ t, X.mg x = some (.int i t)) (hg : Gl X x := by rfl) (hd : (x == ("__debug__" : Str)) = false := by decide) : PE X (.Name x pos) (tC (.int i)) := by
  obtain ⟨t, h⟩ := h
  exact pe_glob hg h ⟨t, rfl⟩ hd
end
section
variable {P : Program} {w : World} {K : PySem.W.Frag} {mg : Str → Option Value} {base : Heap}
/-- THE RULE for a def of the text: its body's walk to its promise -/
theorem okF {x : Str} {st : Stmt} {N ps : List Str} {k : Nat} {sp : Sp} (D : ∃ fd, FunD K x x (defArgs st) (defBody st) (defScope st) [] [] (He.ga K x) fd) (g : mg x = some (.ref (He.ga K x))) (S : FnScope N ps (defScope st)) (len : ∀ vs H Q E, sp vs H Q E → vs.length = ps.length)
    (hb : ∀ (kV doc pm : Value) (an : Option Addr) (cdv ct : Value) (us : List Value), us.length = ps.length → bindArgs (PySem.W.fnOf x x (defArgs st) (defBody st) (defScope st) .none kV doc pm an cdv ct) ⟨us, []⟩ = pure (ps.zip us))
    (hbody : ∀ (cdv : Value) (A : Around) (outer : List Env) (s : Shared) (H : Hp) (vs : List V) (Q : VK) (E : XK), Room k (A.deeper (envOfC x (defScope st) s.heap.objs.size (He.ga K x) cdv)) → sp vs H Q E →
      ∃ t, PSs (cxOf CX0 P w K mg base N x (defScope st) (He.ga K x) cdv A outer s H E).nox (defBody st) t ∧ t { nx := fun _ H' => Q .non H', rt := Q } (start N vs) H) : OkF P w K mg base x (k + 1) ps sp := by
  obtain ⟨fd, F⟩ := D
  exact ⟨⟨fd, F.ok S len fun cdv A outer s H vs Q E hr hsp => let ⟨t, h, q⟩ := hbody cdv A outer s H vs Q E hr hsp; ⟨t, h.nox, q⟩, F.bindsN hb⟩, g, F.kp⟩
theorem okM {C m qual : Str} {st : Stmt} {N ps : List Str} {k : Nat} {sp : Sp} (D : ∃ fd, FunD K m qual (defArgs st) (defBody st) (defScope st) [] [] (He.ma K (He.ga K C) m) fd) (me : Meth K (He.ga K C) m (He.ma K (He.ga K C) m)) (cl : Cls K (He.ga K C)) (S : FnScope N ps (defScope st)) (len : ∀ vs H Q E, sp vs H Q E → vs.length = ps.length)
    (hb : ∀ (kV doc pm : Value) (an : Option Addr) (cdv ct : Value) (us : List Value), us.length = ps.length → bindArgs (PySem.W.fnOf m qual (defArgs st) (defBody st) (defScope st) .none kV doc pm an cdv ct) ⟨us, []⟩ = pure (ps.zip us))
    (hbody : ∀ (cdv : Value) (A : Around) (outer : List Env) (s : Shared) (H : Hp) (vs : List V) (Q : VK) (E : XK), Room k (A.deeper (envOfC qual (defScope st) s.heap.objs.size (He.ma K (He.ga K C) m) cdv)) → sp vs H Q E →
      ∃ t, PSs (cxOf CX0 P w K mg base N qual (defScope st) (He.ma K (He.ga K C) m) cdv A outer s H E).nox (defBody st) t ∧ t { nx := fun _ H' => Q .non H', rt := Q } (start N vs) H) : OkM P w K mg base (He.ga K C) m (k + 1) ps sp := by
  obtain ⟨fd, F⟩ := D
  exact ⟨⟨fd, F.ok S len fun cdv A outer s H vs Q E hr hsp => let ⟨t, h, q⟩ := hbody cdv A outer s H vs Q E hr hsp; ⟨t, h.nox, q⟩, F.bindsN hb⟩, me, cl⟩
theorem okI {C qual : Str} {st : Stmt} {N ps : List Str} {k : Nat} {sp : Sp} (D : ∃ fd, FunD K "__init__" qual (defArgs st) (defBody st) (defScope st) [] [] (He.ma K (He.ga K C) "__init__") fd) (mk : Mk K (He.ga K C) (He.ma K (He.ga K C) "__init__")) (g : mg C = some (.ref (He.ga K C))) (S : FnScope N ps (defScope st)) (len : ∀ vs H Q E, sp vs H Q E → vs.length = ps.length)
    (hb : ∀ (kV doc pm : Value) (an : Option Addr) (cdv ct : Value) (us : List Value), us.length = ps.length → bindArgs (PySem.W.fnOf "__init__" qual (defArgs st) (defBody st) (defScope st) .none kV doc pm an cdv ct) ⟨us, []⟩ = pure (ps.zip us))
    (hbody : ∀ (cdv : Value) (A : Around) (outer : List Env) (s : Shared) (H : Hp) (vs : List V) (Q : VK) (E : XK), Room k (A.deeper (envOfC qual (defScope st) s.heap.objs.size (He.ma K (He.ga K C) "__init__") cdv)) → sp vs H Q E →
      ∃ t, PSs (cxOf CX0 P w K mg base N qual (defScope st) (He.ma K (He.ga K C) "__init__") cdv A outer s H E).nox (defBody st) t ∧ t { nx := fun _ H' => Q .non H', rt := Q } (start N vs) H) : OkI P w K mg base C (k + 1) ps sp := by
  obtain ⟨fd, F⟩ := D
  exact ⟨⟨fd, F.ok S len fun cdv A outer s H vs Q E hr hsp => let ⟨t, h, q⟩ := hbody cdv A outer s H vs Q E hr hsp; ⟨t, h.nox, q⟩, F.bindsN hb⟩, mk, g⟩
end
end Ws
set_option Elab.async false
set_option linter.all false
set_option maxRecDepth 100000
set_option maxHeartbeats 4000000
namespace Ws
open PySem PySem.Spec PyProof.Rows L2 Wt

section
variable {P : Program} {w : World} {K : PySem.W.Frag} {mg : Str → Option Value} {base : Heap}
def sp_sequence_of (K : PySem.W.Frag) : Sp := fun vs H Q _ => ∃ i p : Int, vs = [.int i, .int p] ∧ Q (.int (seqOf i p)) H
def sp_position_of (K : PySem.W.Frag) : Sp := fun vs H Q _ => ∃ i s r : Int, vs = [.int i, .int s, .int r] ∧ Q (.int (posOf i s r)) H
theorem sc_sequence_of : FnScope ["initial", "position"] ["initial", "position"] (defScope s_sequence_of) := ⟨rfl, rfl, rfl, by decide +kernel, rfl, by decide +kernel, by decide +kernel⟩
theorem ok_sequence_of (D : DefsOk K mg)  : OkF P w K mg base "sequence_of" 1 ["initial", "position"] (sp_sequence_of K) := by
  have M := D.m
  refine okF (st := s_sequence_of) (N := ["initial", "position"]) D.d_sequence_of D.g_sequence_of sc_sequence_of (fun vs H Q E h => ?_) (fun _ _ _ _ _ _ us hl => match us, hl with | [_, _], _ => rfl) (fun cdv A outer s H vs Q E hr h => ?_)
  · obtain ⟨i, p, rfl, hQ⟩ := h
    rfl
  obtain ⟨i, p, rfl, hQ⟩ := h
  refine ⟨_, (pss_one (ps_ret (pe_op op_mod (pe_op op_add (pv 0) (pv 1)) (pe_kon M.k_MODULUS)))), ?_⟩
  exact ⟨_, rfl, _, rfl, _, _, rfl, rfl, _, _, rfl, rfl, (by show (0 : Int) < 65536; decide), hQ⟩
theorem sc_position_of : FnScope ["initial", "sequence", "reference", "ahead"] ["initial", "sequence", "reference"] (defScope s_position_of) := ⟨rfl, rfl, rfl, by decide +kernel, rfl, by decide +kernel, by decide +kernel⟩
theorem ok_position_of (D : DefsOk K mg)  : OkF P w K mg base "position_of" 1 ["initial", "sequence", "reference"] (sp_position_of K) := by
  have M := D.m
  refine okF (st := s_position_of) (N := ["initial", "sequence", "reference", "ahead"]) D.d_position_of D.g_position_of sc_position_of (fun vs H Q E h => ?_) (fun _ _ _ _ _ _ us hl => match us, hl with | [_, _, _], _ => rfl) (fun cdv A outer s H vs Q E hr h => ?_)
  · obtain ⟨i, sq, r, rfl, hQ⟩ := h
    rfl
  obtain ⟨i, sq, r, rfl, hQ⟩ := h
  refine ⟨_, (pss_cons (ps_set (i := 3) sc_position_of.nd rfl (Or.inl rfl) (pe_op op_mod (pe_op op_sub (pv 1) (pe_op op_add (pv 0) (pv 2))) (pe_kon M.k_MODULUS)))
      (pss_cons (ps_if (pt_cmp (pc_lt (pv 3) (pe_kon M.k_HALF))) (pss_one (ps_ret (pe_op op_add (pv 2) (pv 3)))) pss_nil)
      (pss_one (ps_ret (pe_op op_sub (pe_op op_add (pv 2) (pv 3)) (pe_kon M.k_MODULUS)))))), ?_⟩
  refine ⟨_, rfl, _, rfl, _, rfl, _, _, rfl, rfl, _, _, rfl, rfl, _, _, rfl, rfl, (by show (0 : Int) < 65536; decide), ?_⟩
  refine ⟨_, rfl, _, _, rfl, rfl, _, rfl, ?_⟩
  unfold posOf at hQ
  refine ifD (c := (sq - (i + r)) % 65536 < 32768) (fun c => ?_) (fun c => ?_)
  · rw [if_pos c] at hQ
    exact ⟨_, rfl, _, rfl, _, _, rfl, rfl, hQ⟩
  · rw [if_neg c] at hQ
    exact ⟨_, rfl, _, rfl, _, _, rfl, rfl, _, _, rfl, rfl, hQ⟩
/-! ### methods that read -/
def sp_Segment_has_flag (K : PySem.W.Frag) : Sp := fun vs H Q _ => ∃ a dx pl bl g f, vs = [.ref a, .int f] ∧ H a = some (.ins (cG K) dx (fG g pl bl)) ∧ 0 ≤ g.flags ∧ 0 ≤ f ∧ Q (.bl (g.has f)) H
def sp_Segment_size (K : PySem.W.Frag) : Sp := fun vs H Q _ => ∃ a dx pl bl g, vs = [.ref a] ∧ H a = some (.ins (cG K) dx (fG g pl bl)) ∧ H pl = some (.lst (g.payload.map V.int)) ∧ 0 ≤ g.flags ∧ Q (.int g.size) H
def sp_Part_end (K : PySem.W.Frag) : Sp := fun vs H Q _ => ∃ a dx pl p, vs = [.ref a] ∧ H a = some (.ins (cP K) dx (fP p pl)) ∧ H pl = some (.lst (p.payload.map V.int)) ∧ Q (.int p.fin) H
def sp_Endpoint_in_flight (K : PySem.W.Frag) : Sp := fun vs H Q _ => ∃ a dx e y, vs = [.ref a] ∧ H a = some (.ins (cE K) dx (fE e y)) ∧ Q (.int e.inFlight) H
theorem sc_Segment_has_flag : FnScope ["self", "flag"] ["self", "flag"] (defScope s_Segment_has_flag) := ⟨rfl, rfl, rfl, by decide +kernel, rfl, by decide +kernel, by decide +kernel⟩
theorem ok_Segment_has_flag (D : DefsOk K mg)  : OkM P w K mg base (He.ga K "Segment") "has_flag" 1 ["self", "flag"] (sp_Segment_has_flag K) := by
  have M := D.m
  refine okM (st := s_Segment_has_flag) (N := ["self", "flag"]) D.d_Segment_has_flag D.me_Segment_has_flag D.m.tx.clG sc_Segment_has_flag (fun vs H Q E h => ?_) (fun _ _ _ _ _ _ us hl => match us, hl with | [_, _], _ => rfl) (fun cdv A outer s H vs Q E hr h => ?_)
  · obtain ⟨a, dx, pl, bl, g, f, rfl, ha, h0, h1, hQ⟩ := h
    rfl
  obtain ⟨a, dx, pl, bl, g, f, rfl, ha, h0, h1, hQ⟩ := h
  refine ⟨_, (pss_one (ps_ret (pe_cmp (pc_neI (pe_op op_and (pe_fld (pv 0) rfl) (pv 1)) pe_int)))), ?_⟩
  refine ⟨_, rfl, _, _, _, _, _, rfl, ha, M.tx.clG, M.tx.nG_flags, lkG_flags, _, rfl, _, _, rfl, rfl, _, _, rfl, rfl, ?_⟩
  show Q (.bl (!decide (Builtin.bitAnd g.flags f = 0))) H
  rw [band_eq h0 h1]
  exact hQ
theorem sc_Segment_size : FnScope ["self"] ["self"] (defScope s_Segment_size) := ⟨rfl, rfl, rfl, by decide +kernel, rfl, by decide +kernel, by decide +kernel⟩
theorem ok_Segment_size (D : DefsOk K mg) (M_Segment_has_flag : OkM P w K mg base (He.ga K "Segment") "has_flag" 1 ["self", "flag"] (sp_Segment_has_flag K)) : OkM P w K mg base (He.ga K "Segment") "size" 2 ["self"] (sp_Segment_size K) := by
  have M := D.m
  refine okM (st := s_Segment_size) (N := ["self"]) D.d_Segment_size D.me_Segment_size D.m.tx.clG sc_Segment_size (fun vs H Q E h => ?_) (fun _ _ _ _ _ _ us hl => match us, hl with | [_], _ => rfl) (fun cdv A outer s H vs Q E hr h => ?_)
  · obtain ⟨a, dx, pl, bl, g, rfl, ha, hp, h0, hQ⟩ := h
    rfl
  obtain ⟨a, dx, pl, bl, g, rfl, ha, hp, h0, hQ⟩ := h
  refine ⟨_, (pss_one (ps_ret (pe_op op_add (pe_op op_add (pe_callB call_len_seq (by rfl) M.b_len bt_len (pa_cons (pe_fld (pv 0) rfl) pa_nil)) (pe_callTy call_int1 (by rfl) M.b_int bt_int (pa_cons (c_meth M_Segment_has_flag (hr.mono (by decide)) (pv 0) (pa_cons (pe_kon M.k_SYN) pa_nil)) pa_nil))) (pe_callTy call_int1 (by rfl) M.b_int bt_int (pa_cons (c_meth M_Segment_has_flag (hr.mono (by decide)) (pv 0) (pa_cons (pe_kon M.k_FIN) pa_nil)) pa_nil))))), ?_⟩
  refine ⟨_, rfl, _, _, _, _, _, rfl, ha, M.tx.clG, M.tx.nG_payload, lkG_payload, _, _, rfl, .inl (SqL.of hp), ?_⟩
  refine ⟨_, rfl, a, dx, _, rfl, ha, rfl, ?_⟩
  refine ⟨a, dx, pl, bl, g, 1, rfl, ha, h0, by decide, .inr ⟨_, rfl, ⟨_, _, rfl, rfl, ?_⟩⟩⟩
  refine ⟨_, rfl, a, dx, _, rfl, ha, rfl, ?_⟩
  refine ⟨a, dx, pl, bl, g, 2, rfl, ha, h0, by decide, .inr ⟨_, rfl, ⟨_, _, rfl, rfl, ?_⟩⟩⟩
  rw [List.length_map]
  exact hQ
theorem sc_Part_end : FnScope ["self"] ["self"] (defScope s_Part_end) := ⟨rfl, rfl, rfl, by decide +kernel, rfl, by decide +kernel, by decide +kernel⟩
theorem ok_Part_end (D : DefsOk K mg)  : OkM P w K mg base (He.ga K "Part") "end" 1 ["self"] (sp_Part_end K) := by
  have M := D.m
  refine okM (st := s_Part_end) (N := ["self"]) D.d_Part_end D.me_Part_end D.m.tx.clP sc_Part_end (fun vs H Q E h => ?_) (fun _ _ _ _ _ _ us hl => match us, hl with | [_], _ => rfl) (fun cdv A outer s H vs Q E hr h => ?_)
  · obtain ⟨a, dx, pl, p, rfl, ha, hp, hQ⟩ := h
    rfl
  obtain ⟨a, dx, pl, p, rfl, ha, hp, hQ⟩ := h
  refine ⟨_, (pss_one (ps_ret (pe_op op_add (pe_op op_add (pe_fld (pv 0) rfl) (pe_callB call_len_seq (by rfl) M.b_len bt_len (pa_cons (pe_fld (pv 0) rfl) pa_nil))) (pe_callTy call_int1 (by rfl) M.b_int bt_int (pa_cons (pe_cmp (pc_gt (pe_fld (pv 0) rfl) pe_int)) pa_nil))))), ?_⟩
  refine ⟨_, rfl, _, _, _, _, _, rfl, ha, M.tx.clP, M.tx.nP_position, lkP_position, _, rfl, _, _, _, _, _, rfl, ha, M.tx.clP, M.tx.nP_payload, lkP_payload, _, _, rfl, .inl (SqL.of hp), _, _, rfl, rfl, ?_⟩
  refine ⟨_, rfl, _, _, _, _, _, rfl, ha, M.tx.clP, M.tx.nP_flag, lkP_flag, _, _, rfl, rfl, .inr ⟨_, rfl, ⟨_, _, rfl, rfl, ?_⟩⟩⟩
  rw [List.length_map]
  exact hQ
theorem sc_Endpoint_in_flight : FnScope ["self"] ["self"] (defScope s_Endpoint_in_flight) := ⟨rfl, rfl, rfl, by decide +kernel, rfl, by decide +kernel, by decide +kernel⟩
theorem ok_Endpoint_in_flight (D : DefsOk K mg)  : OkM P w K mg base (He.ga K "Endpoint") "in_flight" 1 ["self"] (sp_Endpoint_in_flight K) := by
  have M := D.m
  refine okM (st := s_Endpoint_in_flight) (N := ["self"]) D.d_Endpoint_in_flight D.me_Endpoint_in_flight D.m.tx.clE sc_Endpoint_in_flight (fun vs H Q E h => ?_) (fun _ _ _ _ _ _ us hl => match us, hl with | [_], _ => rfl) (fun cdv A outer s H vs Q E hr h => ?_)
  · obtain ⟨a, dx, e, y, rfl, ha, hQ⟩ := h
    rfl
  obtain ⟨a, dx, e, y, rfl, ha, hQ⟩ := h
  refine ⟨_, (pss_one (ps_ret (pe_op op_sub (pe_fld (pv 0) rfl) (pe_fld (pv 0) rfl)))), ?_⟩
  exact ⟨_, rfl, _, _, _, _, _, rfl, ha, M.tx.clE, M.tx.nE_next_position, lkE_next_position, _, rfl, _, _, _, _, _, rfl, ha, M.tx.clE, M.tx.nE_acknowledged, lkE_acknowledged, _, _, rfl, rfl, hQ⟩
def sp_Link_window_of (K : PySem.W.Frag) : Sp := fun vs H Q _ => ∃ T L n e o, vs = [.ref L.lk, .ref L.a] ∧ Rep K H T L n e o ∧ Q (.int (win n e)) H
theorem sc_Link_window_of : FnScope ["self", "endpoint"] ["self", "endpoint"] (defScope s_Link_window_of) := ⟨rfl, rfl, rfl, by decide +kernel, rfl, by decide +kernel, by decide +kernel⟩
theorem ok_Link_window_of (D : DefsOk K mg)  : OkM P w K mg base (He.ga K "Link") "window_of" 1 ["self", "endpoint"] (sp_Link_window_of K) := by
  have M := D.m
  refine okM (st := s_Link_window_of) (N := ["self", "endpoint"]) D.d_Link_window_of D.me_Link_window_of D.m.tx.clL sc_Link_window_of (fun vs H Q E h => ?_) (fun _ _ _ _ _ _ us hl => match us, hl with | [_, _], _ => rfl) (fun cdv A outer s H vs Q E hr h => ?_)
  · obtain ⟨T, L, n, e, o, rfl, R, hQ⟩ := h
    rfl
  obtain ⟨T, L, n, e, o, rfl, R, hQ⟩ := h
  refine ⟨_, (pss_one (ps_ret (pe_op op_sub (pe_fld (pe_fld (pv 0) rfl) rfl) (pe_callB call_len_seq (by rfl) M.b_len bt_len (pa_cons (pe_fld (pv 1) rfl) pa_nil))))), ?_⟩
  obtain ⟨dl, hl⟩ := R.lk
  obtain ⟨ds, hs⟩ := R.st
  obtain ⟨da, ha⟩ := R.ea.obj
  have C := R.ea.c
  refine ⟨_, rfl, _, _, _, _, _, rfl, hl, M.tx.clL, M.tx.nL_settings, lkL_settings, _, _, _, _, _, rfl, hs, M.tx.clS, M.tx.nS_buffer, lkS_buffer, _, rfl, _, _, _, _, _, rfl, ha, M.tx.clE, M.tx.nE_readable, lkE_readable, _, _, rfl, .inl (SqL.of C.rd), _, _, rfl, rfl, ?_⟩
  rw [List.length_map]
  exact hQ
def sp_Endpoint_shown_state (K : PySem.W.Frag) : Sp := fun vs H Q _ => ∃ T L n e o, vs = [.ref L.a] ∧ Rep K H T L n e o ∧ ∀ H', Same H H' → Q (.int e.shown) H'
theorem sc_Endpoint_shown_state : FnScope ["self"] ["self"] (defScope s_Endpoint_shown_state) := ⟨rfl, rfl, rfl, by decide +kernel, rfl, by decide +kernel, by decide +kernel⟩
theorem ok_Endpoint_shown_state (D : DefsOk K mg)  : OkM P w K mg base (He.ga K "Endpoint") "shown_state" 1 ["self"] (sp_Endpoint_shown_state K) := by
  have M := D.m
  refine okM (st := s_Endpoint_shown_state) (N := ["self"]) D.d_Endpoint_shown_state D.me_Endpoint_shown_state D.m.tx.clE sc_Endpoint_shown_state (fun vs H Q E h => ?_) (fun _ _ _ _ _ _ us hl => match us, hl with | [_], _ => rfl) (fun cdv A outer s H vs Q E hr h => ?_)
  · obtain ⟨T, L, n, e, o, rfl, R, hQ⟩ := h
    rfl
  obtain ⟨T, L, n, e, o, rfl, R, hQ⟩ := h
  refine ⟨_, (pss_cons (ps_if (pt_cmp (pc_neI (pe_fld (pv 0) rfl) (pe_kon M.k_ESTABLISHED))) (pss_one (ps_ret (pe_fld (pv 0) rfl))) pss_nil)
      (pss_cons (ps_if (PW.pt (pw_and (pt_val (pe_fld (pv 0) rfl)) (pw_and (pt_cmpR (op_eqN (X := _) hr.units) (pe_fld (pv 0) rfl) (pe_lst pa_nil) (nomark _)) (pw_and1 (pt_val (pe_fld (pv 0) rfl)))))) (pss_one (ps_ret pe_int)) pss_nil)
      (pss_cons (ps_if (pt_val (pe_fld (pv 0) rfl)) (pss_one (ps_ret pe_int)) pss_nil)
      (pss_one (ps_ret (pe_ifExp (pt_val (pe_fld (pv 0) rfl)) pe_int (pe_kon M.k_ESTABLISHED))))))), ?_⟩
  obtain ⟨da, ha⟩ := R.ea.obj
  have C := R.ea.c
  refine ⟨_, rfl, _, _, _, _, _, rfl, ha, M.tx.clE, M.tx.nE_state, lkE_state, _, _, rfl, rfl, _, rfl, ?_⟩
  refine ifN (c := e.state = 4) (fun c => ?_) (fun c => ?_)
  · have q := hQ H (Same.refl H)
    unfold MEnd.shown at q
    rw [if_pos c] at q
    exact ⟨_, rfl, _, _, _, _, _, rfl, ha, M.tx.clE, M.tx.nE_state, lkE_state, q⟩
  have last : ∀ H1, Same H H1 → (e.finSent && (e.parts.isEmpty && e.finReceived)) = false → Q (.int (if e.finReceived = true then 6 else if e.finSent = true then 5 else 4)) H1 := fun H1 s1 z => by
    have q := hQ H1 s1
    unfold MEnd.shown at q
    rw [if_neg (by rw [c]; simp), if_neg (by rw [z]; simp)] at q
    exact q
  have first : ∀ H1, Same H H1 → (e.finSent && (e.parts.isEmpty && e.finReceived)) = true → Q (.int 7) H1 := fun H1 s1 z => by
    have q := hQ H1 s1
    unfold MEnd.shown at q
    rw [if_neg (by rw [c]; simp), if_pos z] at q
    exact q
  have emp : (L.y.ps.map fun q => V.ref q.1).isEmpty = e.parts.isEmpty := by
    rw [C.ps]
    cases L.y.ps <;> rfl
  refine ⟨_, rfl, _, _, _, _, _, rfl, ha, M.tx.clE, M.tx.nE_fin_sent, lkE_fin_sent, _, rfl, ?_⟩
  refine ifB (fun f1 => ?_) (fun f1 => ?_)
  · refine ⟨_, rfl, _, _, _, _, _, rfl, ha, M.tx.clE, M.tx.nE_parts, lkE_parts, (by show 0 ≤ sizeLine; decide), fun p hp => ?_⟩
    have s1 : Same H (upd H p (.lst [])) := same_upd hp
    have hn : upd H p (.lst []) p = some (.lst []) := upd_same
    generalize upd H p (.lst []) = H1 at s1 hn ⊢
    have ha := s1 _ _ ha
    refine ⟨_, p, _, rfl, rfl, SqL.of (s1 _ _ C.pts), SqL.of hn, _, rfl, ?_⟩
    rw [emp]
    refine ifB (fun f2 => ?_) (fun f2 => ?_)
    · refine ⟨_, rfl, _, _, _, _, _, rfl, ha, M.tx.clE, M.tx.nE_fin_received, lkE_fin_received, _, rfl, ?_⟩
      refine ifB (fun f3 => ?_) (fun f3 => ?_)
      · exact first H1 s1 (by rw [f1, f2, f3]; rfl)
      · have q := last H1 s1 (by rw [f1, f2, f3]; rfl)
        rw [f3, f1] at q
        refine ⟨_, rfl, _, _, _, _, _, rfl, ha, M.tx.clE, M.tx.nE_fin_received, lkE_fin_received, _, rfl, ?_⟩
        rw [f3]
        refine iteF ⟨_, rfl, _, _, _, _, _, rfl, ha, M.tx.clE, M.tx.nE_fin_sent, lkE_fin_sent, _, rfl, ?_⟩
        rw [f1]
        exact iteT q
    · have q := last H1 s1 (by rw [f1, f2]; rfl)
      refine iteF ⟨_, rfl, _, _, _, _, _, rfl, ha, M.tx.clE, M.tx.nE_fin_received, lkE_fin_received, _, rfl, ?_⟩
      refine ifB (fun f3 => ?_) (fun f3 => ?_)
      · rw [f3] at q
        exact q
      · rw [f3, f1] at q
        refine ⟨_, rfl, _, _, _, _, _, rfl, ha, M.tx.clE, M.tx.nE_fin_sent, lkE_fin_sent, _, rfl, ?_⟩
        rw [f1]
        exact iteT q
  · have q := last H (Same.refl H) (by rw [f1]; rfl)
    refine iteF ⟨_, rfl, _, _, _, _, _, rfl, ha, M.tx.clE, M.tx.nE_fin_received, lkE_fin_received, _, rfl, ?_⟩
    refine ifB (fun f3 => ?_) (fun f3 => ?_)
    · rw [f3] at q
      exact q
    · rw [f3, f1] at q
      refine ⟨_, rfl, _, _, _, _, _, rfl, ha, M.tx.clE, M.tx.nE_fin_sent, lkE_fin_sent, _, rfl, ?_⟩
      rw [f1]
      exact iteF q
def sp_Endpoint_held_bytes (K : PySem.W.Frag) : Sp := fun vs H Q _ => ∃ T L n e o, vs = [.ref L.a] ∧ Rep K H T L n e o ∧ e.parts.length ≤ 10000 ∧ ∀ H', Same H H' → Q (.int e.held) H'
theorem sc_Endpoint_held_bytes : FnScope ["self", "part"] ["self"] (defScope s_Endpoint_held_bytes) := ⟨rfl, rfl, rfl, by decide +kernel, rfl, by decide +kernel, by decide +kernel⟩
theorem ok_Endpoint_held_bytes (D : DefsOk K mg)  : OkM P w K mg base (He.ga K "Endpoint") "held_bytes" 1 ["self"] (sp_Endpoint_held_bytes K) := by
  have M := D.m
  refine okM (st := s_Endpoint_held_bytes) (N := ["self", "part"]) D.d_Endpoint_held_bytes D.me_Endpoint_held_bytes D.m.tx.clE sc_Endpoint_held_bytes (fun vs H Q E h => ?_) (fun _ _ _ _ _ _ us hl => match us, hl with | [_], _ => rfl) (fun cdv A outer s H vs Q E hr h => ?_)
  · obtain ⟨T, L, n, e, o, rfl, R, hz, hQ⟩ := h
    rfl
  obtain ⟨T, L, n, e, o, rfl, R, hz, hQ⟩ := h
  refine ⟨_, (pss_one (ps_ret (pe_op op_add (pe_callB call_len_seq (by rfl) M.b_len bt_len (pa_cons (pe_fld (pv 0) rfl) pa_nil)) (pe_callB (cr_sum rfl) (by rfl) M.b_sum bt_sum (pa_cons (pe_lc (own := [("part", 1)]) (g := gName 1) rfl sc_Endpoint_held_bytes.nd (pi_list (pe_fld (pv 0) rfl)) (blkOk_by (N := ["self", "part"]) (sc := defScope s_Endpoint_held_bytes) (by decide +kernel)) (fun _ _ _ _ _ => pg_name (i := 1) sc_Endpoint_held_bytes.nd rfl (Or.inl rfl)) (fun _ _ _ _ _ => pts_nil) (fun _ _ _ _ _ => by exact (pe_callB (call_len_seqK (K := K) rfl) (by rfl) M.b_len bt_len (pa_cons (pe_fldK (K := K) rfl (pv 1) rfl) pa_nil)))) pa_nil))))), ?_⟩
  obtain ⟨da, ha⟩ := R.ea.obj
  have C := R.ea.c
  refine ⟨_, rfl, _, _, _, _, _, rfl, ha, M.tx.clE, M.tx.nE_unsent, lkE_unsent, _, _, rfl, .inl (SqL.of C.un), ?_⟩
  refine ⟨_, rfl, _, _, _, _, _, rfl, ha, M.tx.clE, M.tx.nE_parts, lkE_parts, _, rfl, ⟨_, SqL.of C.pts⟩, fun D hD => ?_⟩
  refine lc_list (K := K) (xs := L.y.ps.map fun q => V.ref q.1) (fun i H' => Same H H' ∧ H D = none ∧ H' D = some (.lst ((L.y.ps.take i).map fun q => V.int (q.2.payload.length : Int)))) ⟨same_upd hD, hD, upd_same⟩ (fun i H' _ h => SqL.of (h.1 _ _ C.pts)) ?_ ?_
  · rintro i x H1 hx ⟨s1, hD, h1⟩
    rw [List.getElem?_map] at hx
    obtain ⟨q, hq, rfl⟩ := Option.map_eq_some_iff.mp hx
    obtain ⟨dp, pl, g1, g2, g3⟩ := (C.part q (List.mem_of_getElem? hq)).obj
    have g1 := s1 _ _ g1
    refine ⟨rfl, ?_⟩
    refine ⟨_, rfl, _, _, _, _, _, rfl, g1, M.tx.clP, M.tx.nP_payload, lkP_payload, _, _, rfl, .inl (SqL.of (s1 _ _ g2)), _, h1, ?_, ?_, hD, ?_⟩
    · rw [List.length_map, List.length_take]
      have : L.y.ps.length = e.parts.length := by rw [C.ps, List.length_map]
      have h16 : sizeLine = 16777216 := sizeLine_eq
      omega
    · exact fun b u hb => by
        rw [upd_ne (ne_of_none hb hD)]
        exact s1 b u hb
    · rw [upd_same, List.length_map, take_more hq, List.map_append]
      rfl
  · rintro H1 ⟨s1, hD, h1⟩
    refine ⟨D, (L.y.ps.map fun q => (q.2.payload.length : Int)), rfl, ?_, _, _, rfl, rfl, ?_⟩
    · rw [List.length_map, List.take_length] at h1
      rw [List.map_map]
      exact SqL.of h1
    · have q := hQ H1 s1
      unfold MEnd.held at q
      rw [C.ps, List.map_map] at q
      rw [List.length_map]
      exact q
def sp_Endpoint_first_unmarked (K : PySem.W.Frag) : Sp := fun vs H Q _ => ∃ T L n e o, vs = [.ref L.a] ∧ Rep K H T L n e o ∧ (e.unmarked = none → Q .non H) ∧ ∀ k q, e.unmarked = some k → L.y.ps[k]? = some q → Q (.ref q.1) H
theorem sc_Endpoint_first_unmarked : FnScope ["self", "part"] ["self"] (defScope s_Endpoint_first_unmarked) := ⟨rfl, rfl, rfl, by decide +kernel, rfl, by decide +kernel, by decide +kernel⟩
theorem ok_Endpoint_first_unmarked (D : DefsOk K mg)  : OkM P w K mg base (He.ga K "Endpoint") "first_unmarked" 1 ["self"] (sp_Endpoint_first_unmarked K) := by
  have M := D.m
  refine okM (st := s_Endpoint_first_unmarked) (N := ["self", "part"]) D.d_Endpoint_first_unmarked D.me_Endpoint_first_unmarked D.m.tx.clE sc_Endpoint_first_unmarked (fun vs H Q E h => ?_) (fun _ _ _ _ _ _ us hl => match us, hl with | [_], _ => rfl) (fun cdv A outer s H vs Q E hr h => ?_)
  · obtain ⟨T, L, n, e, o, rfl, R, hN, hS⟩ := h
    rfl
  obtain ⟨T, L, n, e, o, rfl, R, hN, hS⟩ := h
  refine ⟨_, (pss_cons (ps_for PassesOwn.never rfl (pi_list (pe_fld (pv 0) rfl)) (pg_name (i := 1) sc_Endpoint_first_unmarked.nd rfl (Or.inl rfl)) (pss_one (ps_if (pt_not (pt_val (pe_fld (pv 1) rfl))) (pss_one (ps_ret (pv 1))) pss_nil)))
      (pss_one (ps_ret pe_non))), ?_⟩
  obtain ⟨da, ha⟩ := R.ea.obj
  have C := R.ea.c
  refine ⟨_, rfl, _, _, _, _, _, rfl, ha, M.tx.clE, M.tx.nE_parts, lkE_parts, _, rfl, ⟨_, SqL.of C.pts⟩, for_list (K := K) (xs := L.y.ps.map fun q => V.ref q.1) (fun i σ H' => H' = H ∧ (∃ v, σ = [some (.ref L.a), v]) ∧ ∀ j, j < i → ∀ q, L.y.ps[j]? = some q → q.2.marked = true) ⟨rfl, ⟨none, rfl⟩, fun j h => absurd h (Nat.not_lt_zero j)⟩ (fun i σ H' _ h => by rw [h.1]; exact SqL.of C.pts) ?_ ?_⟩
  · rintro i x σ H' hx ⟨rfl, ⟨v, rfl⟩, hm⟩
    rw [List.getElem?_map] at hx
    obtain ⟨q, hq, rfl⟩ := Option.map_eq_some_iff.mp hx
    obtain ⟨dp, pl, g1, g2, g3⟩ := (C.part q (List.mem_of_getElem? hq)).obj
    refine ⟨_, rfl, _, _, _, _, _, rfl, g1, M.tx.clP, M.tx.nP_marked, lkP_marked, _, rfl, ?_⟩
    refine ifNB (fun f => ?_) (fun f => ?_)
    · refine ⟨_, rfl, hS i q ?_ hq⟩
      unfold MEnd.unmarked
      rw [List.findIdx?_eq_some_iff_getElem]
      have hl : i < L.y.ps.length := (List.getElem?_eq_some_iff.mp hq).1
      have hget : ∀ j (hj : j < e.parts.length), ∃ q, L.y.ps[j]? = some q ∧ e.parts[j] = q.2 := fun j hj => by
        have hl2 : j < L.y.ps.length := by rw [C.ps, List.length_map] at hj; exact hj
        refine ⟨L.y.ps[j], List.getElem?_eq_getElem hl2, ?_⟩
        have e2 : e.parts[j]? = some (L.y.ps[j]).2 := by rw [C.ps, List.getElem?_map, List.getElem?_eq_getElem hl2]; rfl
        rw [List.getElem?_eq_getElem hj] at e2
        exact Option.some.inj e2
      have hle : i < e.parts.length := by rw [C.ps, List.length_map]; exact hl
      refine ⟨hle, ?_, fun j hj => ?_⟩
      · obtain ⟨q2, e1, e2⟩ := hget i hle
        rw [hq] at e1
        cases e1
        rw [e2, f]
        rfl
      · obtain ⟨q2, e1, e2⟩ := hget j (Nat.lt_trans hj hle)
        rw [e2, hm j hj q2 e1]
        decide
    · exact ⟨rfl, ⟨_, rfl⟩, fun j hj q2 e2 => by
        rcases Nat.lt_succ_iff_lt_or_eq.mp hj with z | z
        · exact hm j z q2 e2
        · rw [z, hq] at e2
          cases e2
          exact f⟩
  · rintro σ H' ⟨rfl, ⟨v, rfl⟩, hm⟩
    refine hN ?_
    unfold MEnd.unmarked
    rw [List.findIdx?_eq_none_iff]
    intro p hp
    rw [C.ps] at hp
    obtain ⟨q, hq, rfl⟩ := List.mem_map.mp hp
    obtain ⟨j, hj⟩ := List.mem_iff_getElem?.mp hq
    have hl : j < (L.y.ps.map fun q => V.ref q.1).length := by rw [List.length_map]; exact (List.getElem?_eq_some_iff.mp hj).1
    rw [hm j hl q hj]
    rfl
end
end Ws
set_option Elab.async false
set_option linter.all false
set_option maxRecDepth 100000
set_option maxHeartbeats 4000000
namespace Ws
open PySem PySem.Spec PyProof.Rows L2 Wt

section
variable {P : Program} {w : World} {K : PySem.W.Frag} {mg : Str → Option Value} {base : Heap}
def sp_Segment_init (K : PySem.W.Frag) : Sp := fun vs H Q _ => ∃ p dx pl g, vs = [.ref p, .int g.sender, .int g.flags, .int g.seq, .ref pl] ∧ g.window = 0 ∧ g.confirmed = 0 ∧ H p = some (.ins (cG K) dx []) ∧
  ∀ H' bl, (∀ b u, H b = some u → b ≠ p → H' b = some u) → H bl = none → bl ≠ p → H' p = some (.ins (cG K) dx (fG g pl bl)) → H' bl = some (.lst []) → Q .non H'
theorem sc_Segment_init : FnScope ["self", "sender", "flags", "sequence", "payload"] ["self", "sender", "flags", "sequence", "payload"] (defScope s_Segment_init) := ⟨rfl, rfl, rfl, by decide +kernel, rfl, by decide +kernel, by decide +kernel⟩
theorem ok_Segment_init (D : DefsOk K mg)  : OkI P w K mg base "Segment" 1 ["self", "sender", "flags", "sequence", "payload"] (sp_Segment_init K) := by
  have M := D.m
  refine okI (st := s_Segment_init) (N := ["self", "sender", "flags", "sequence", "payload"]) D.d_Segment_init D.mk_Segment D.g_Segment sc_Segment_init (fun vs H Q E h => ?_) (fun _ _ _ _ _ _ us hl => match us, hl with | [_, _, _, _, _], _ => rfl) (fun cdv A outer s H vs Q E hr h => ?_)
  · obtain ⟨p, dx, pl, g, rfl, w0, c0, hp, hQ⟩ := h
    rfl
  obtain ⟨p, dx, pl, g, rfl, w0, c0, hp, hQ⟩ := h
  refine ⟨_, (pss_cons (ps_fld (pv 0) (pv 1) rfl)
      (pss_cons (ps_fld (pv 0) (pv 2) rfl)
      (pss_cons (ps_fld (pv 0) (pv 3) rfl)
      (pss_cons (ps_fld (pv 0) (pv 4) rfl)
      (pss_cons (ps_fld (pv 0) pe_int rfl)
      (pss_cons (ps_fld (pv 0) pe_int rfl)
      (pss_one (ps_fld (pv 0) (pe_lst pa_nil) rfl)))))))), ?_⟩
  refine ⟨_, rfl, _, rfl, _, _, _, _, rfl, hp, M.tx.clG, M.tx.nG_sender, (by show 0 < 1000; decide), ?_⟩
  rw [inG_sender (g := g) (pl := pl) (bl := 0)]
  generalize e1 : upd _ _ _ = H1
  obtain ⟨h1, o1⟩ := keep_upd e1
  refine ⟨_, rfl, _, rfl, _, _, _, _, rfl, h1, M.tx.clG, M.tx.nG_flags, take_len _ (by decide), ?_⟩
  rw [inG_flags (g := g) (pl := pl) (bl := 0)]
  generalize e2 : upd _ _ _ = H2
  obtain ⟨h2, o2⟩ := keep_upd e2
  refine ⟨_, rfl, _, rfl, _, _, _, _, rfl, h2, M.tx.clG, M.tx.nG_sequence, take_len _ (by decide), ?_⟩
  rw [inG_sequence (g := g) (pl := pl) (bl := 0)]
  generalize e3 : upd _ _ _ = H3
  obtain ⟨h3, o3⟩ := keep_upd e3
  refine ⟨_, rfl, _, rfl, _, _, _, _, rfl, h3, M.tx.clG, M.tx.nG_payload, take_len _ (by decide), ?_⟩
  rw [inG_payload (g := g) (pl := pl) (bl := 0)]
  generalize e4 : upd _ _ _ = H4
  obtain ⟨h4, o4⟩ := keep_upd e4
  refine ⟨_, rfl, _, _, _, _, rfl, h4, M.tx.clG, M.tx.nG_window, take_len _ (by decide), ?_⟩
  have i5 := inG_window (g := g) (pl := pl) (bl := 0)
  rw [w0] at i5
  rw [i5]
  generalize e5 : upd _ _ _ = H5
  obtain ⟨h5, o5⟩ := keep_upd e5
  refine ⟨_, rfl, _, _, _, _, rfl, h5, M.tx.clG, M.tx.nG_confirmed, take_len _ (by decide), ?_⟩
  have i6 := inG_confirmed (g := g) (pl := pl) (bl := 0)
  rw [c0] at i6
  rw [i6]
  generalize e6 : upd _ _ _ = H6
  obtain ⟨h6, o6⟩ := keep_upd e6
  have k6 : ∀ b u, H b = some u → b ≠ p → H6 b = some u := fun b u hb ne => by rw [o6 b ne, o5 b ne, o4 b ne, o3 b ne, o2 b ne, o1 b ne]; exact hb
  refine ⟨by show 0 ≤ sizeLine; decide, fun bl hbl => ?_⟩
  have nb : bl ≠ p := fun z => by rw [z, h6] at hbl; cases hbl
  have hb0 : H bl = none := by
    cases z : H bl with
    | none => rfl
    | some u => rw [k6 bl u z nb] at hbl; cases hbl
  generalize e7 : upd _ _ _ = H7
  obtain ⟨h7, o7⟩ := keep_upd e7
  have hp7 := (o7 p (Ne.symm nb)).trans h6
  refine ⟨_, rfl, _, _, _, _, rfl, hp7, M.tx.clG, M.tx.nG_blocks, take_len _ (by decide), ?_⟩
  have et : (fG g pl 0).take 6 = (fG g pl bl).take 6 := rfl
  rw [et, inG_blocks (g := g) (pl := pl) (bl := bl)]
  generalize e8 : upd _ _ _ = H8
  obtain ⟨h8, o8⟩ := keep_upd e8
  refine hQ H8 bl (fun b u hb ne => ?_) hb0 nb h8 ((o8 bl nb).trans h7)
  rw [o8 b ne, o7 b (ne_of_none hb hb0)]
  exact k6 b u hb ne
def sp_Part_init (K : PySem.W.Frag) : Sp := fun vs H Q _ => ∃ p dx pl q, vs = [.ref p, .int q.position, .int q.flag, .ref pl, .int q.sentAt] ∧ q.transmissions = 1 ∧ q.marked = false ∧ H p = some (.ins (cP K) dx []) ∧
  ∀ H', (∀ b u, H b = some u → b ≠ p → H' b = some u) → H' p = some (.ins (cP K) dx (fP q pl)) → Q .non H'
theorem sc_Part_init : FnScope ["self", "position", "flag", "payload", "sent_at"] ["self", "position", "flag", "payload", "sent_at"] (defScope s_Part_init) := ⟨rfl, rfl, rfl, by decide +kernel, rfl, by decide +kernel, by decide +kernel⟩
theorem ok_Part_init (D : DefsOk K mg)  : OkI P w K mg base "Part" 1 ["self", "position", "flag", "payload", "sent_at"] (sp_Part_init K) := by
  have M := D.m
  refine okI (st := s_Part_init) (N := ["self", "position", "flag", "payload", "sent_at"]) D.d_Part_init D.mk_Part D.g_Part sc_Part_init (fun vs H Q E h => ?_) (fun _ _ _ _ _ _ us hl => match us, hl with | [_, _, _, _, _], _ => rfl) (fun cdv A outer s H vs Q E hr h => ?_)
  · obtain ⟨p, dx, pl, q, rfl, w0, c0, hp, hQ⟩ := h
    rfl
  obtain ⟨p, dx, pl, q, rfl, w0, c0, hp, hQ⟩ := h
  refine ⟨_, (pss_cons (ps_fld (pv 0) (pv 1) rfl)
      (pss_cons (ps_fld (pv 0) (pv 2) rfl)
      (pss_cons (ps_fld (pv 0) (pv 3) rfl)
      (pss_cons (ps_fld (pv 0) (pv 4) rfl)
      (pss_cons (ps_fld (pv 0) pe_int rfl)
      (pss_one (ps_fld (pv 0) pe_bl rfl))))))), ?_⟩
  refine ⟨_, rfl, _, rfl, _, _, _, _, rfl, hp, M.tx.clP, M.tx.nP_position, (by show 0 < 1000; decide), ?_⟩
  rw [inP_position (p := q) (pl := pl)]
  generalize e1 : upd _ _ _ = H1
  obtain ⟨h1, o1⟩ := keep_upd e1
  refine ⟨_, rfl, _, rfl, _, _, _, _, rfl, h1, M.tx.clP, M.tx.nP_flag, take_len _ (by decide), ?_⟩
  rw [inP_flag (p := q) (pl := pl)]
  generalize e2 : upd _ _ _ = H2
  obtain ⟨h2, o2⟩ := keep_upd e2
  refine ⟨_, rfl, _, rfl, _, _, _, _, rfl, h2, M.tx.clP, M.tx.nP_payload, take_len _ (by decide), ?_⟩
  rw [inP_payload (p := q) (pl := pl)]
  generalize e3 : upd _ _ _ = H3
  obtain ⟨h3, o3⟩ := keep_upd e3
  refine ⟨_, rfl, _, rfl, _, _, _, _, rfl, h3, M.tx.clP, M.tx.nP_sent_at, take_len _ (by decide), ?_⟩
  rw [inP_sent_at (p := q) (pl := pl)]
  generalize e4 : upd _ _ _ = H4
  obtain ⟨h4, o4⟩ := keep_upd e4
  refine ⟨_, rfl, _, _, _, _, rfl, h4, M.tx.clP, M.tx.nP_transmissions, take_len _ (by decide), ?_⟩
  have i5 := inP_transmissions (p := q) (pl := pl)
  rw [w0] at i5
  rw [i5]
  generalize e5 : upd _ _ _ = H5
  obtain ⟨h5, o5⟩ := keep_upd e5
  refine ⟨_, rfl, _, _, _, _, rfl, h5, M.tx.clP, M.tx.nP_marked, take_len _ (by decide), ?_⟩
  have i6 := inP_marked (p := q) (pl := pl)
  rw [c0] at i6
  rw [i6]
  generalize e6 : upd _ _ _ = H6
  obtain ⟨h6, o6⟩ := keep_upd e6
  exact hQ H6 (fun b u hb ne => by rw [o6 b ne, o5 b ne, o4 b ne, o3 b ne, o2 b ne, o1 b ne]; exact hb) h6
def sp_Endpoint_early_ranges (K : PySem.W.Frag) : Sp := fun vs H Q _ => ∃ T L n e o, vs = [.ref L.a] ∧ Rep K H T L n e o ∧ e.early.length ≤ 10000 ∧
  ∀ H' p, ∀ bs : List (Addr × (Int × Int)), Same H H' → H p = none → H' p = some (.lst (bs.map fun q => V.ref q.1)) → bs.map (·.2) = e.ranges → (∀ q ∈ bs, H' q.1 = some (.tup [.int q.2.1, .int q.2.2])) → Q (.ref p) H'
theorem last_set {α : Type} {l : List α} {x y : α} (h : l.getLast? = some x) : l.set (l.length - 1) y = l.dropLast ++ [y] := by
  obtain ⟨r, rfl⟩ := List.getLast?_eq_some_iff.mp h
  rw [List.dropLast_concat, List.length_append, List.length_singleton, Nat.add_sub_cancel, List.set_append_right _ _ (Nat.le_refl _), Nat.sub_self]
  rfl
theorem atI_last {l : List V} {x : V} (h : l.getLast? = some x) : atI l (-1) = some x := by
  obtain ⟨r, rfl⟩ := List.getLast?_eq_some_iff.mp h
  have hl : ixN (r ++ [x]).length (-1) = some r.length := by
    unfold ixN
    rw [if_neg (by decide), if_pos (by rw [List.length_append, List.length_singleton]; omega)]
    rw [List.length_append, List.length_singleton]
    exact congrArg some (by omega)
  unfold atI
  rw [hl]
  simp
theorem ixN_last {n : Nat} (h : 0 < n) : ixN n (-1) = some (n - 1) := by
  unfold ixN
  rw [if_neg (by decide), if_pos (by omega)]
  exact congrArg some (by omega)
theorem rg_len (l : List Int) : ∀ f : List (Int × Int), (l.foldl rgStep f).length ≤ f.length + l.length := by
  induction l with
  | nil => intro f; exact Nat.le_refl _
  | cons x r ih =>
    intro f
    rw [List.foldl_cons]
    have h1 := ih (rgStep f x)
    have h2 : (rgStep f x).length ≤ f.length + 1 := by
      unfold rgStep
      split
      · simp
      · split
        · simp
          try omega
        · simp
    rw [List.length_cons]
    omega
theorem sc_Endpoint_early_ranges : FnScope ["self", "found", "position"] ["self"] (defScope s_Endpoint_early_ranges) := ⟨rfl, rfl, rfl, by decide +kernel, rfl, by decide +kernel, by decide +kernel⟩
theorem ok_Endpoint_early_ranges (D : DefsOk K mg)  : OkM P w K mg base (He.ga K "Endpoint") "early_ranges" 1 ["self"] (sp_Endpoint_early_ranges K) := by
  have M := D.m
  refine okM (st := s_Endpoint_early_ranges) (N := ["self", "found", "position"]) D.d_Endpoint_early_ranges D.me_Endpoint_early_ranges D.m.tx.clE sc_Endpoint_early_ranges (fun vs H Q E h => ?_) (fun _ _ _ _ _ _ us hl => match us, hl with | [_], _ => rfl) (fun cdv A outer s H vs Q E hr h => ?_)
  · obtain ⟨T, L, n, e, o, rfl, R, hz, hQ⟩ := h
    rfl
  obtain ⟨T, L, n, e, o, rfl, R, hz, hQ⟩ := h
  refine ⟨_, (pss_cons (ps_set (i := 1) sc_Endpoint_early_ranges.nd rfl (Or.inl rfl) (pe_lst pa_nil))
      (pss_cons (ps_for PassesOwn.never rfl (pi_list (pe_callB (cr_sortD rfl) (by rfl) M.b_sorted bt_sorted (pa_cons (pe_fld (pv 0) rfl) pa_nil))) (pg_name (i := 2) sc_Endpoint_early_ranges.nd rfl (Or.inl rfl)) (pss_one (ps_if (PW.pt (pw_and (pt_cmpR (op_neN (X := _) hr.units) (pv 1) (pe_lst pa_nil) (nomark _)) (pw_and1 (pt_cmp (pc_eqI (pe_ix ix_tup (pe_ix ix_list (pv 1) (pe_un un_neg pe_int) (fun _ _ => rfl)) pe_int (fun _ _ => rfl)) (pv 2)))))) (pss_one (ps_asg (pe_tup (pa_cons (pe_ix ix_tup (pe_ix ix_list (pv 1) (pe_un un_neg pe_int) (fun _ _ => rfl)) pe_int (fun _ _ => rfl)) (pa_cons (pe_op op_add (pv 2) pe_int) pa_nil))) (pg_sub (pv 1) (pe_un un_neg pe_int) set_list))) (pss_one (ps_expr (pe_bm PySem.F.plainAttrs_list PySem.F.slot_list_append PySem.F.type_list_append mt_append (pv 1) (pa_cons (pe_tup (pa_cons (pv 2) (pa_cons (pe_op op_add (pv 2) pe_int) pa_nil))) pa_nil)))))))
      (pss_one (ps_ret (pv 1))))), ?_⟩
  obtain ⟨da, ha⟩ := R.ea.obj
  have C := R.ea.c
  have h16 : sizeLine = 16777216 := sizeLine_eq
  refine ⟨by show 0 ≤ sizeLine; decide, fun f hf => ?_⟩
  have s1 : Same H (upd H f (.lst [])) := same_upd hf
  have hn : upd H f (.lst []) f = some (.lst []) := upd_same
  generalize upd H f (.lst []) = H1 at s1 hn ⊢
  refine ⟨_, rfl, _, _, _, _, _, rfl, s1 _ _ ha, M.tx.clE, M.tx.nE_early, lkE_early, _, _, e.early.map (·.1), rfl, .inl (s1 _ _ C.ea), by rw [List.map_map, List.map_map]; rfl, by rw [List.length_map]; omega, fun ys sp hp hs hsp => ?_⟩
  have ey : ys = sortI (e.early.map (·.1)) := sort_eq hp hs
  have ly : ys.length ≤ 10000 := by rw [hp.length_eq, List.length_map]; exact hz
  have s2 : Same H1 (upd H1 sp (.lst (ys.map V.int))) := same_upd hsp
  have hn2 : upd H1 sp (.lst (ys.map V.int)) sp = some (.lst (ys.map V.int)) := upd_same
  have nsf : sp ≠ f := fun z => by rw [z, hn] at hsp; cases hsp
  generalize upd H1 sp (.lst (ys.map V.int)) = H2 at s2 hn2 ⊢
  have hn := s2 _ _ hn
  refine ⟨_, rfl, ⟨_, SqL.of hn2⟩, for_list (K := K) (xs := ys.map V.int) (fun i σ H' => ∃ bs : List (Addr × (Int × Int)), (∃ v, σ = [some (.ref L.a), some (.ref f), v]) ∧ Same H H' ∧ H' sp = some (.lst (ys.map V.int)) ∧ H' f = some (.lst (bs.map fun q => V.ref q.1)) ∧ bs.map (·.2) = rgOf (ys.take i) ∧ ∀ q ∈ bs, H' q.1 = some (.tup [.int q.2.1, .int q.2.2]))
    ⟨[], ⟨none, rfl⟩, s1.trans s2, hn2, hn, rfl, fun _ h => nomatch h⟩ (fun i σ H' _ ⟨_, _, _, h, _⟩ => SqL.of h) ?_ ?_⟩
  · rintro i x σ H' hx ⟨bs, ⟨v, rfl⟩, s5, g1, g2, g3, g4⟩
    rw [List.getElem?_map] at hx
    obtain ⟨z, hz2, rfl⟩ := Option.map_eq_some_iff.mp hx
    have step : rgOf (ys.take (i + 1)) = rgStep (rgOf (ys.take i)) z := by
      unfold rgOf
      rw [take_more hz2, List.foldl_append]
      rfl
    have lb : bs.length ≤ 10000 := by
      have := rg_len (ys.take i) []
      have e2 := congrArg List.length g3
      rw [List.length_map] at e2
      have e3 : (ys.take i).length ≤ ys.length := by rw [List.length_take]; omega
      have e4 : (rgOf (ys.take i)).length ≤ 0 + (ys.take i).length := this
      omega
    have neT : ∀ {q : Addr} {xs ws : List V} {p : Addr}, H' q = some (.tup xs) → H' p = some (.lst ws) → q ≠ p := fun h h' => ne_of h h' (by intro z; cases z)
    -- found.append((position, position + 1)), over any heap that stands
    have app : ∀ H3, Same H' H3 → rgStep (rgOf (ys.take i)) z = rgOf (ys.take i) ++ [(z, z + 1)] → ∀ t, H3 t = none → ∃ bs2 : List (Addr × (Int × Int)), (∃ v, ([some (.ref L.a), some (.ref f), some (.int z)] : L2.St) = [some (.ref L.a), some (.ref f), v]) ∧ Same H (upd (upd H3 t (.tup [.int z, .int (z + 1)])) f (.lst ((bs.map fun q => V.ref q.1) ++ [.ref t]))) ∧
        upd (upd H3 t (.tup [.int z, .int (z + 1)])) f (.lst ((bs.map fun q => V.ref q.1) ++ [.ref t])) sp = some (.lst (ys.map V.int)) ∧ upd (upd H3 t (.tup [.int z, .int (z + 1)])) f (.lst ((bs.map fun q => V.ref q.1) ++ [.ref t])) f = some (.lst (bs2.map fun q => V.ref q.1)) ∧ bs2.map (·.2) = rgOf (ys.take (i + 1)) ∧
        ∀ q ∈ bs2, upd (upd H3 t (.tup [.int z, .int (z + 1)])) f (.lst ((bs.map fun q => V.ref q.1) ++ [.ref t])) q.1 = some (.tup [.int q.2.1, .int q.2.2]) := fun H3 s3 er t ht => by
      have nt : ∀ b u, H' b = some u → b ≠ t := fun b u h => ne_of_none (s3 _ _ h) ht
      refine ⟨bs ++ [(t, (z, z + 1))], ⟨_, rfl⟩, fun b u hb => ?_, ?_, ?_, ?_, fun q hq => ?_⟩
      · rw [upd_ne (ne_of_none hb hf), upd_ne (nt b u (s5 b u hb))]
        exact s3 b u (s5 b u hb)
      · rw [upd_ne nsf, upd_ne (nt _ _ g1)]
        exact s3 _ _ g1
      · rw [upd_same, List.map_append]
        rfl
      · rw [List.map_append, g3, step, er]
        rfl
      · rcases List.mem_append.mp hq with m | m
        · have h1 := g4 q m
          rw [upd_ne (neT h1 g2), upd_ne (nt _ _ h1)]
          exact s3 _ _ h1
        · rw [List.mem_singleton.mp m]
          show upd _ f _ t = _
          rw [upd_ne (Ne.symm (nt _ _ g2)), upd_same]
    refine ⟨_, rfl, (by show 0 ≤ sizeLine; decide), fun w hw => ?_⟩
    have s3 : Same H' (upd H' w (.lst [])) := same_upd hw
    have hw2 : upd H' w (.lst []) w = some (.lst []) := upd_same
    generalize upd H' w (.lst []) = H3 at s3 hw2 ⊢
    refine ⟨_, w, _, rfl, rfl, SqL.of (s3 _ _ g2), SqL.of hw2, _, rfl, ?_⟩
    refine ifNE (fun ne => ?_) (fun em => ?_)
    · -- found is not empty
      have bne : bs ≠ [] := fun z => ne (by rw [z]; rfl)
      obtain ⟨q0, hq0⟩ : ∃ q0, bs.getLast? = some q0 := by
        cases h : bs.getLast? with
        | none => exact absurd (List.getLast?_eq_none_iff.mp h) bne
        | some q0 => exact ⟨q0, rfl⟩
      have lq : (bs.map fun q => V.ref q.1).getLast? = some (.ref q0.1) := by rw [List.getLast?_map, hq0]; rfl
      have lr : (rgOf (ys.take i)).getLast? = some q0.2 := by rw [← g3, List.getLast?_map, hq0]; rfl
      have mq : q0 ∈ bs := List.mem_of_getLast? hq0
      have tq := g4 q0 mq
      refine ⟨_, rfl, _, rfl, f, _, -1, _, rfl, rfl, SqL.of (s3 _ _ g2), atI_last lq, _, _, 1, _, rfl, rfl, SqT.of (s3 _ _ tq), (by rfl), _, rfl, _, _, rfl, rfl, _, rfl, ?_⟩
      refine ifD (c := q0.2.2 = z) (fun c => ?_) (fun c => ?_)
      · refine ⟨_, rfl, _, rfl, f, _, -1, _, rfl, rfl, SqL.of (s3 _ _ g2), atI_last lq, _, _, 0, _, rfl, rfl, SqT.of (s3 _ _ tq), (by rfl), ?_⟩
        refine ⟨_, rfl, _, _, rfl, rfl, (by show 2 ≤ sizeLine; decide), fun t ht => ?_⟩
        have s4 := same_upd (v := .tup [.int q0.2.1, .int (z + 1)]) ht
        have ht2 : upd H3 t (.tup [.int q0.2.1, .int (z + 1)]) t = some (.tup [.int q0.2.1, .int (z + 1)]) := upd_same
        have nt : ∀ b u, H' b = some u → b ≠ t := fun b u h => ne_of_none (s3 _ _ h) ht
        generalize upd H3 t (.tup [.int q0.2.1, .int (z + 1)]) = H4 at s4 ht2 ⊢
        have s6 : Same H' H4 := s3.trans s4
        have lpos : 0 < (bs.map fun q => V.ref q.1).length := by
          rw [List.length_map]
          exact List.length_pos_iff.mpr bne
        refine ⟨_, rfl, _, rfl, f, _, -1, _, rfl, rfl, s6 _ _ g2, ixN_last lpos, ?_⟩
        refine ⟨bs.dropLast ++ [(t, (q0.2.1, z + 1))], ⟨_, rfl⟩, fun b u hb => ?_, ?_, ?_, ?_, fun q hq => ?_⟩
        · rw [upd_ne (ne_of_none hb hf)]
          exact s6 b u (s5 b u hb)
        · rw [upd_ne nsf]
          exact s6 _ _ g1
        · rw [upd_same, last_set lq, List.map_append, List.map_dropLast]
          rfl
        · rw [List.map_append, List.map_dropLast, g3, step]
          unfold rgStep
          rw [lr]
          show _ = if q0.2.2 = z then _ else _
          rw [if_pos c]
          rfl
        · rcases List.mem_append.mp hq with m | m
          · have h1 := g4 q ((List.dropLast_sublist bs).mem m)
            rw [upd_ne (neT h1 g2)]
            exact s6 _ _ h1
          · rw [List.mem_singleton.mp m]
            show upd _ f _ t = _
            rw [upd_ne (Ne.symm (nt _ _ g2))]
            exact ht2
      · refine ⟨_, rfl, .inl ⟨rfl, _, SqL.of (s3 _ _ g2)⟩, _, rfl, _, rfl, _, _, rfl, rfl, (by show 2 ≤ sizeLine; decide), fun t ht => ?_⟩
        refine ⟨f, (bs.map fun q => V.ref q.1), _, rfl, rfl, ?_, ?_, ?_⟩
        · rw [upd_ne (ne_of_none (s3 _ _ g2) ht)]
          exact s3 _ _ g2
        · rw [List.length_map]; omega
        · exact app H3 s3 (by unfold rgStep; rw [lr]; show (if q0.2.2 = z then _ else _) = _; rw [if_neg c]) t ht
    · have be : bs = [] := List.map_eq_nil_iff.mp em
      have re : rgOf (ys.take i) = [] := by rw [← g3, be]; rfl
      refine iteF ⟨_, rfl, .inl ⟨rfl, _, SqL.of (s3 _ _ g2)⟩, _, rfl, _, rfl, _, _, rfl, rfl, (by show 2 ≤ sizeLine; decide), fun t ht => ?_⟩
      refine ⟨f, (bs.map fun q => V.ref q.1), _, rfl, rfl, ?_, ?_, ?_⟩
      · rw [upd_ne (ne_of_none (s3 _ _ g2) ht)]
        exact s3 _ _ g2
      · rw [List.length_map]; omega
      · exact app H3 s3 (by rw [re]; rfl) t ht
  · rintro σ H' ⟨bs, ⟨v, rfl⟩, s5, g1, g2, g3, g4⟩
    rw [List.length_map, List.take_length, ey] at g3
    exact ⟨_, rfl, hQ H' f bs s5 hf g2 g3 g4⟩
end
end Ws
set_option Elab.async false
set_option linter.all false
set_option maxRecDepth 100000
set_option maxHeartbeats 4000000
namespace Ws
open PySem PySem.Spec PyProof.Rows L2 Wt

section
variable {P : Program} {w : World} {K : PySem.W.Frag} {mg : Str → Option Value} {base : Heap}
def sp_transmit (K : PySem.W.Frag) : Sp := fun vs H Q _ => ∃ T L n e o fl pos pl, ∃ us : List Int, ∃ n', vs = [.ref L.lk, .ref L.a, .int fl, .int pos, .ref pl] ∧ Rep K H T L n e o ∧ H pl = some (.lst (us.map V.int)) ∧ T pl = .frz ∧ 0 ≤ fl ∧ transmit n e fl pos us = some n' ∧
  ∀ H' T' L', Rep K H' T' L' n' e o → Nx H T L H' T' L' → L'.y = L.y → Q .non H'
theorem bit8 {fl : Int} (h : 0 ≤ fl) : 0 ≤ fl + 8 := by omega
theorem sc_transmit : FnScope ["link", "endpoint", "flags", "position", "payload", "segment", "start", "end", "first"] ["link", "endpoint", "flags", "position", "payload"] (defScope s_transmit) := ⟨rfl, rfl, rfl, by decide +kernel, rfl, by decide +kernel, by decide +kernel⟩
theorem ok_transmit (D : DefsOk K mg) (F_sequence_of : OkF P w K mg base "sequence_of" 1 ["initial", "position"] (sp_sequence_of K)) (I_Segment : OkI P w K mg base "Segment" 1 ["self", "sender", "flags", "sequence", "payload"] (sp_Segment_init K)) (M_Endpoint_early_ranges : OkM P w K mg base (He.ga K "Endpoint") "early_ranges" 1 ["self"] (sp_Endpoint_early_ranges K)) (M_Link_window_of : OkM P w K mg base (He.ga K "Link") "window_of" 1 ["self", "endpoint"] (sp_Link_window_of K)) : OkF P w K mg base "transmit" 3 ["link", "endpoint", "flags", "position", "payload"] (sp_transmit K) := by
  have M := D.m
  refine okF (st := s_transmit) (N := ["link", "endpoint", "flags", "position", "payload", "segment", "start", "end", "first"]) D.d_transmit D.g_transmit sc_transmit (fun vs H Q E h => ?_) (fun _ _ _ _ _ _ us hl => match us, hl with | [_, _, _, _, _], _ => rfl) (fun cdv A outer s H vs Q E hr h => ?_)
  · obtain ⟨T, L, n, e, o, fl, pos, pl, us, n', rfl, R, hpl, tpl, hfl, ht, hQ⟩ := h
    rfl
  obtain ⟨T, L, n, e, o, fl, pos, pl, us, n', rfl, R, hpl, tpl, hfl, ht, hQ⟩ := h
  refine ⟨_, (pss_cons (ps_set (i := 5) sc_transmit.nd rfl (Or.inl rfl) (c_make I_Segment (hr.mono (by decide)) rfl (pa_cons (pe_fld (pv 1) rfl) (pa_cons (pv 2) (pa_cons (c_call F_sequence_of (hr.mono (by decide)) rfl (pa_cons (pe_fld (pv 1) rfl) (pa_cons (pv 3) pa_nil))) (pa_cons (pv 4) pa_nil))))))
      (pss_cons (ps_fld (pv 5) (c_meth M_Link_window_of (hr.mono (by decide)) (pv 0) (pa_cons (pv 1) pa_nil)) rfl)
      (Evl.pss_cut (ps_if (pt_cmp (pc_neI (pe_fld (pv 1) rfl) pe_int)) (pss_cons (ps_fld (pv 5) (pe_op op_add (pv 2) (pe_kon M.k_ACKNOWLEDGEMENT)) rfl)
      (pss_cons (ps_fld (pv 5) (c_call F_sequence_of (hr.mono (by decide)) rfl (pa_cons (pe_fld (pv 1) rfl) (pa_cons (pe_fld (pv 1) rfl) pa_nil))) rfl)
      (pss_one (ps_for PassesOwn.never rfl (pi_list (pe_slice sl_list (c_meth0 M_Endpoint_early_ranges (hr.mono (by decide)) (pv 1)) po_none (po_some (pe_kon M.k_MOST_BLOCKS)))) (pg_tup rfl (pgs_cons (pg_name (i := 6) sc_transmit.nd rfl (Or.inl rfl)) (pgs_cons (pg_name (i := 7) sc_transmit.nd rfl (Or.inl rfl)) pgs_nil))) (pss_cons (ps_set (i := 8) sc_transmit.nd rfl (Or.inl rfl) (c_call F_sequence_of (hr.mono (by decide)) rfl (pa_cons (pe_fld (pv 1) rfl) (pa_cons (pv 6) pa_nil))))
      (pss_one (ps_expr (pe_bm PySem.F.plainAttrs_list PySem.F.slot_list_append PySem.F.type_list_append mt_append (pe_fld (pv 5) rfl) (pa_cons (pe_tup (pa_cons (pv 8) (pa_cons (c_call F_sequence_of (hr.mono (by decide)) rfl (pa_cons (pe_fld (pv 1) rfl) (pa_cons (pv 7) pa_nil))) pa_nil))) pa_nil))))))))) pss_nil)
      (pss_cons (ps_fldaug (pv 0) pe_int in_add)
      (pss_one (ps_if (pt_cmp (pc_lt (pe_callB call_len_seq (by rfl) M.b_len bt_len (pa_cons (pe_fld (pv 0) rfl) pa_nil)) (pe_kon M.k_MOST_SEGMENTS))) (pss_one (ps_expr (pe_bm PySem.F.plainAttrs_list PySem.F.slot_list_append PySem.F.type_list_append mt_append (pe_fld (pv 0) rfl) (pa_cons (pv 5) pa_nil)))) (pss_one (ps_fldaug (pv 0) pe_int in_add)))))))), ?_⟩
  obtain ⟨hz, en⟩ : e.early.length ≤ 10000 ∧ n' = putSeg n (mkSeg n e fl pos us) := by
    unfold transmit at ht
    split at ht
    · rename_i c
      exact ⟨c, (Option.some.inj ht).symm⟩
    · cases ht
  subst en
  obtain ⟨dl, hl⟩ := R.lk
  obtain ⟨da, ha⟩ := R.ea.obj
  refine ⟨_, rfl, _, _, _, _, _, rfl, ha, M.tx.clE, M.tx.nE_side, lkE_side, _, rfl, _, rfl, _, _, _, _, _, rfl, ha, M.tx.clE, M.tx.nE_initial, lkE_initial, _, rfl, e.initial, pos, rfl, _, rfl, fun x dx nx nd ndx => ?_⟩
  refine ⟨x, dx, pl, ⟨e.side, fl, seqOf e.initial pos, us, 0, 0, []⟩, rfl, rfl, rfl, upd_same, fun H1 bl kp nbl0 nblx hx1 hb1 => ⟨rfl, ?_⟩⟩
  have s1 : Same H H1 := Same.made nx nd kp
  have nbl : H bl = none := by
    cases z : H bl with
    | none => rfl
    | some u => rw [upd_ne nblx, upd_ne (ne_of_none z nd), z] at nbl0; cases nbl0
  have rp : ∀ {H'}, Same H H' → Rep K H' (rt H T) L n e o := fun s => R.same s fun _ _ h => rt_old h
  have fresh_ne : ∀ {p q u}, H p = none → H q = some u → q ≠ p := fun hp hq => ne_of_none hq hp
  -- segment.window = link.window_of(endpoint)
  have R1 := rp s1
  refine ⟨_, rfl, L.lk, dl, _, rfl, s1 _ _ hl, rfl, _, rfl, rt H T, L, n, e, o, rfl, R1, ?_⟩
  refine ⟨_, rfl, _, _, _, _, rfl, hx1, M.tx.clG, M.tx.nG_window, lnG, ?_⟩
  rw [ptG_window]
  generalize e2 : upd _ _ _ = H2
  obtain ⟨hx2, o2⟩ := keep_upd e2
  have s2 : Same H H2 := fun b u hb => (o2 b (fresh_ne nx hb)).trans (s1 b u hb)
  have hb2 : H2 bl = some (.lst []) := (o2 bl nblx).trans hb1
  have ha2 := s2 _ _ ha
  let Mid : L2.St → Hp → Prop := fun σ H' => ∃ v6 v7 v8, ∃ g : MSeg, ∃ cs : List (Addr × (Int × Int)), σ = [some (.ref L.lk), some (.ref L.a), some (.int fl), some (.int pos), some (.ref pl), some (.ref x), v6, v7, v8] ∧ Same H H' ∧ H' x = some (.ins (cG K) dx (fG g pl bl)) ∧ H' bl = some (.lst (cs.map fun q => V.ref q.1)) ∧
    g.blocks = cs.map (·.2) ∧ (∀ q ∈ cs, H' q.1 = some (.tup [.int q.2.1, .int q.2.2]) ∧ H q.1 = none) ∧ g = mkSeg n e fl pos us
  refine ⟨Mid, ?_, ?_⟩
  · refine ⟨_, rfl, _, _, _, _, _, rfl, ha2, M.tx.clE, M.tx.nE_expected, lkE_expected, _, _, rfl, rfl, _, rfl, ?_⟩
    refine ifN (c := e.expected = 0) (fun c => ?_) (fun c => ?_)
    · -- there is an acknowledgement
      refine ⟨_, rfl, _, _, rfl, rfl, _, rfl, _, _, _, _, rfl, hx2, M.tx.clG, M.tx.nG_flags, lnG, ?_⟩
      rw [ptG_flags]
      generalize e3 : upd _ _ _ = H3
      obtain ⟨hx3, o3⟩ := keep_upd e3
      have s3 : Same H H3 := fun b u hb => (o3 b (fresh_ne nx hb)).trans (s2 b u hb)
      have hb3 := (o3 bl nblx).trans hb2
      have ha3 := s3 _ _ ha
      refine ⟨_, rfl, _, _, _, _, _, rfl, ha3, M.tx.clE, M.tx.nE_peer_initial, lkE_peer_initial, _, rfl, _, _, _, _, _, rfl, ha3, M.tx.clE, M.tx.nE_expected, lkE_expected, e.peerInitial, e.expected, rfl, _, rfl, _, _, _, _, rfl, hx3, M.tx.clG, M.tx.nG_confirmed, lnG, ?_⟩
      rw [ptG_confirmed]
      generalize e4 : upd _ _ _ = H4
      obtain ⟨hx4, o4⟩ := keep_upd e4
      have s4 : Same H H4 := fun b u hb => (o4 b (fresh_ne nx hb)).trans (s3 b u hb)
      have hb4 := (o4 bl nblx).trans hb3
      have ha4 := s4 _ _ ha
      refine ⟨_, rfl, L.a, da, _, rfl, ha4, rfl, ?_⟩
      refine ⟨rt H T, L, n, e, o, rfl, rp s4, hz, fun H5 p bs s45 np hp hbs htup => ?_⟩
      refine ⟨3, rfl, p, _, rfl, SqL.of hp, fun p2 np2 => ?_⟩
      rw [cut_take (f := fun q : Addr × (Int × Int) => V.ref q.1) bs (by decide)]
      have s6 := same_upd (v := .lst ((bs.take (3 : Int).toNat).map fun q => V.ref q.1)) np2
      have hp2 : upd H5 p2 (.lst ((bs.take (3 : Int).toNat).map fun q => V.ref q.1)) p2 = some (.lst ((bs.take 3).map fun q => V.ref q.1)) := upd_same
      generalize upd H5 p2 (.lst ((bs.take (3 : Int).toNat).map fun q => V.ref q.1)) = H6 at s6 hp2 ⊢
      have s46 : Same H4 H6 := s45.trans s6
      have ne2 : p2 ≠ bl := fun z => by rw [z, s45 _ _ hb4] at np2; cases np2
      have ne2x : p2 ≠ x := fun z => by rw [z, s45 _ _ hx4] at np2; cases np2
      refine ⟨p2, rfl, ⟨_, SqL.of hp2⟩, for_list (K := K) (xs := (bs.take 3).map fun q => V.ref q.1) (fun i σ H' => ∃ v6 v7 v8, ∃ cs : List (Addr × (Int × Int)), σ = [some (.ref L.lk), some (.ref L.a), some (.int fl), some (.int pos), some (.ref pl), some (.ref x), v6, v7, v8] ∧ (∀ b u, H6 b = some u → b ≠ bl → H' b = some u) ∧
          H' bl = some (.lst (cs.map fun q => V.ref q.1)) ∧ cs.map (·.2) = ((bs.take 3).take i).map (fun q => (seqOf e.peerInitial q.2.1, seqOf e.peerInitial q.2.2)) ∧ ∀ q ∈ cs, H' q.1 = some (.tup [.int q.2.1, .int q.2.2]) ∧ H q.1 = none)
        ⟨none, none, none, [], rfl, fun b u h _ => h, s46 _ _ hb4, rfl, fun _ h => nomatch h⟩ (fun i σ H' _ ⟨_, _, _, _, _, h, _⟩ => SqL.of (h _ _ hp2 ne2)) ?_ ?_⟩
      · rintro i y σ H' hy ⟨v6, v7, v8, cs, rfl, kp6, g1, g2, g3⟩
        rw [List.getElem?_map] at hy
        obtain ⟨q, hq, rfl⟩ := Option.map_eq_some_iff.mp hy
        have mq : q ∈ bs := List.mem_of_mem_take (List.mem_of_getElem? hq)
        have tq := htup q mq
        have neq : q.1 ≠ bl := ne_of tq (s45 _ _ hb4) (by intro z; cases z)
        have tq' := kp6 _ _ (s6 _ _ tq) neq
        have s7 : Same H H' := fun b u hb => kp6 b u (s46 b u (s4 b u hb)) (fresh_ne nbl hb)
        have ha7 := s7 _ _ ha
        have hx7 := kp6 _ _ (s46 _ _ hx4) (Ne.symm nblx)
        refine ⟨q.1, _, rfl, SqT.of tq', rfl, _, _, rfl, _, _, rfl, rfl, ?_⟩
        refine ⟨_, rfl, _, _, _, _, _, rfl, ha7, M.tx.clE, M.tx.nE_peer_initial, lkE_peer_initial, _, rfl, e.peerInitial, q.2.1, rfl, ?_⟩
        refine ⟨_, rfl, _, _, _, _, _, rfl, hx7, M.tx.clG, M.tx.nG_blocks, lkG_blocks, .inl ⟨rfl, _, SqL.of g1⟩, _, rfl, _, rfl, _, _, _, _, _, rfl, ha7, M.tx.clE, M.tx.nE_peer_initial, lkE_peer_initial, _, rfl, e.peerInitial, q.2.2, rfl, (by show 2 ≤ sizeLine; decide), fun t nt => ?_⟩
        have ntH : H t = none := by
          cases z : H t with
          | none => rfl
          | some u => rw [s7 t u z] at nt; cases nt
        have ntb : t ≠ bl := fun z => by rw [z, g1] at nt; cases nt
        refine ⟨bl, (cs.map fun q => V.ref q.1), _, rfl, rfl, ?_, ?_, ?_⟩
        · rw [upd_ne (Ne.symm ntb)]
          exact g1
        · have e1 := congrArg List.length g2
          rw [List.length_map, List.length_map, List.length_take, List.length_take] at e1
          rw [List.length_map]
          have h16 : sizeLine = 16777216 := sizeLine_eq
          omega
        · refine ⟨_, _, _, cs ++ [(t, (seqOf e.peerInitial q.2.1, seqOf e.peerInitial q.2.2))], rfl, fun b u hb ne => ?_, ?_, ?_, fun w hw => ?_⟩
          · have h1 := kp6 b u hb ne
            rw [upd_ne ne, upd_ne (ne_of_none h1 nt)]
            exact h1
          · rw [upd_same, List.map_append]
            rfl
          · rw [List.map_append, g2, take_more hq, List.map_append]
            rfl
          · rcases List.mem_append.mp hw with m | m
            · obtain ⟨h1, h2⟩ := g3 w m
              refine ⟨?_, h2⟩
              rw [upd_ne (ne_of h1 g1 (by intro z; cases z)), upd_ne (ne_of_none h1 nt)]
              exact h1
            · rw [List.mem_singleton.mp m]
              refine ⟨?_, ntH⟩
              show upd _ bl _ t = _
              rw [upd_ne ntb, upd_same]
      · rintro σ H' ⟨v6, v7, v8, cs, rfl, kp6, g1, g2, g3⟩
        have s7 : Same H H' := fun b u hb => kp6 b u (s46 b u (s4 b u hb)) (fresh_ne nbl hb)
        refine ⟨v6, v7, v8, { sender := e.side, flags := fl + 8, seq := seqOf e.initial pos, payload := us, window := win n e, confirmed := seqOf e.peerInitial e.expected, blocks := cs.map (·.2) }, cs, rfl, s7, ?_, g1, rfl, g3, ?_⟩
        · exact kp6 _ _ (s46 _ _ hx4) (Ne.symm nblx)
        · unfold mkSeg
          rw [if_neg c]
          rw [List.length_map, List.take_length] at g2
          rw [g2, ← hbs, ← List.map_take, List.map_map]
          rfl
    · refine ⟨none, none, none, { sender := e.side, flags := fl, seq := seqOf e.initial pos, payload := us, window := win n e, confirmed := 0, blocks := [] }, [], rfl, s2, hx2, hb2, rfl, (fun _ h => nomatch h), ?_⟩
      unfold mkSeg
      rw [if_pos c]
  · rintro σ H7 ⟨v6, v7, v8, g, cs, rfl, s7, hx7, hb7, gb, hcs, eg⟩
    have R7 := rp s7
    obtain ⟨dl, hl⟩ := R7.lk
    refine ⟨_, rfl, _, _, _, _, _, rfl, hl, M.tx.clL, M.tx.nL_sent, lkL_sent, _, _, rfl, rfl, dl, _, hl, lnL, ?_⟩
    rw [ptL_sent]
    generalize e8 : upd _ _ _ = H8
    obtain ⟨hl8, o8⟩ := keep_upd e8
    obtain ⟨R8, F8⟩ := R7.setL (n' := { n with sent := n.sent + 1 }) e8
    have nlx : x ≠ L.lk := Ne.symm (fresh_ne nx (R.lk.choose_spec))
    have F78 : Fr H T H8 (rt H T) := (Fr.of_same s7 fun _ _ h => rt_old h).trans F8
    have k8 : ∀ p u, H7 p = some u → H p = none → H8 p = some u := fun p u h h0 => by
      rw [o8 p (Ne.symm (fresh_ne h0 R.lk.choose_spec))]
      exact h
    have tx : rt H T x = .frz := rt_new nx
    have tb : rt H T bl = .frz := rt_new nbl
    have G8 : SegAt K H8 (rt H T) x g := by
      refine ⟨dx, pl, bl, cs, k8 _ _ hx7 nx, ?_, k8 _ _ hb7 nbl, gb, fun q m => ⟨k8 _ _ (hcs q m).1 (hcs q m).2, rt_new (hcs q m).2⟩, tx, (rt_old hpl).trans tpl, tb, ?_⟩
      · have npl : pl ≠ L.lk := fun z => by
          have t1 := R.tL
          rw [← z, tpl] at t1
          cases t1
        have e0 : g.payload = us := by
          rw [eg]
          unfold mkSeg
          split <;> rfl
        rw [o8 pl npl, e0]
        exact s7 _ _ hpl
      · rw [eg]
        unfold mkSeg
        split
        · exact hfl
        · exact bit8 hfl
    refine ⟨_, rfl, _, _, _, _, _, rfl, hl8, M.tx.clL, M.tx.nL_segments, lkL_segments, _, _, rfl, .inl (SqL.of R8.sg), _, _, rfl, rfl, _, rfl, ?_⟩
    rw [List.length_map]
    have len : L.ss.length = n.segs.length := by rw [R.ss, List.length_map]
    rw [len]
    refine ifD (c := (n.segs.length : Int) < 60) (fun c => ?_) (fun c => ?_)
    · refine ⟨_, rfl, _, _, _, _, _, rfl, hl8, M.tx.clL, M.tx.nL_segments, lkL_segments, .inl ⟨rfl, _, SqL.of R8.sg⟩, _, rfl, _, _, _, rfl, rfl, R8.sg, ?_, ?_⟩
      · rw [List.length_map, len]
        have h16 : sizeLine = 16777216 := sizeLine_eq
        omega
      · have el : (L.ss.map fun q => V.ref q.1) ++ [V.ref x] = (L.ss ++ [(x, g)]).map fun q => V.ref q.1 := by rw [List.map_append]; rfl
        rw [el]
        generalize e9 : upd _ _ _ = H9
        obtain ⟨R9, F9⟩ := R8.mutS (ss' := L.ss ++ [(x, g)]) (fun q m => by
          rcases List.mem_append.mp m with m | m
          · exact R8.sa q m
          · rw [List.mem_singleton.mp m]
            exact G8) rfl e9
        refine hQ H9 (rt H T) { L with ss := L.ss ++ [(x, g)] } ?_ ⟨rfl, rfl, rfl, rfl, F78.trans F9⟩ rfl
        unfold putSeg
        rw [if_pos c, ← eg]
        have e0 : ({ n with segs := n.segs ++ [g], sent := n.sent + 1 } : MNet) = { { n with sent := n.sent + 1 } with segs := (L.ss ++ [(x, g)]).map (·.2) } := by
          rw [List.map_append, ← R.ss]
          rfl
        rw [e0]
        exact R9
    · refine ⟨_, rfl, _, _, _, _, _, rfl, hl8, M.tx.clL, M.tx.nL_lost, lkL_lost, _, _, rfl, rfl, dl, _, hl8, lnL, ?_⟩
      rw [ptL_lost]
      generalize e9 : upd _ _ _ = H9
      obtain ⟨R9, F9⟩ := R8.setL (n' := { n with sent := n.sent + 1, lost := n.lost + 1 }) e9
      refine hQ H9 (rt H T) L ?_ ⟨rfl, rfl, rfl, rfl, F78.trans F9⟩ rfl
      unfold putSeg
      rw [if_neg c]
      exact R9
end
end Ws
set_option Elab.async false
set_option linter.all false
set_option maxRecDepth 100000
set_option maxHeartbeats 4000000
namespace Ws
open PySem PySem.Spec PyProof.Rows L2 Wt

section
variable {P : Program} {w : World} {K : PySem.W.Frag} {mg : Str → Option Value} {base : Heap}
def sp_send_acknowledgement (K : PySem.W.Frag) : Sp := fun vs H Q _ => ∃ T L n e o n', vs = [.ref L.lk, .ref L.a] ∧ Rep K H T L n e o ∧ sendAck n e = some n' ∧
  ∀ H' T' L', Rep K H' T' L' n' e o → Nx H T L H' T' L' → L'.y = L.y → Q .non H'
theorem sc_send_acknowledgement : FnScope ["link", "endpoint"] ["link", "endpoint"] (defScope s_send_acknowledgement) := ⟨rfl, rfl, rfl, by decide +kernel, rfl, by decide +kernel, by decide +kernel⟩
theorem ok_send_acknowledgement (D : DefsOk K mg) (F_transmit : OkF P w K mg base "transmit" 3 ["link", "endpoint", "flags", "position", "payload"] (sp_transmit K)) : OkF P w K mg base "send_acknowledgement" 4 ["link", "endpoint"] (sp_send_acknowledgement K) := by
  have M := D.m
  refine okF (st := s_send_acknowledgement) (N := ["link", "endpoint"]) D.d_send_acknowledgement D.g_send_acknowledgement sc_send_acknowledgement (fun vs H Q E h => ?_) (fun _ _ _ _ _ _ us hl => match us, hl with | [_, _], _ => rfl) (fun cdv A outer s H vs Q E hr h => ?_)
  · obtain ⟨T, L, n, e, o, n', rfl, R, ht, hQ⟩ := h
    rfl
  obtain ⟨T, L, n, e, o, n', rfl, R, ht, hQ⟩ := h
  refine ⟨_, (pss_one (ps_expr (c_call F_transmit (hr.mono (by decide)) rfl (pa_cons (pv 0) (pa_cons (pv 1) (pa_cons pe_int (pa_cons (pe_fld (pv 1) rfl) (pa_cons (pe_lst pa_nil) pa_nil)))))))), ?_⟩
  obtain ⟨da, ha⟩ := R.ea.obj
  refine ⟨_, rfl, _, rfl, _, rfl, _, _, _, _, _, rfl, ha, M.tx.clE, M.tx.nE_next_position, lkE_next_position, (by show 0 ≤ sizeLine; decide), fun p hp => ?_⟩
  generalize e1 : upd _ _ _ = H1
  obtain ⟨R1, F1, hp1, tp1, _⟩ := R.alloc hp .frz e1
  exact ⟨_, L, n, e, o, 0, e.next, p, [], n', rfl, R1, hp1, tp1, by decide, ht, fun H' T' L' R' N' y' => hQ H' T' L' R' (Nx.trans ⟨rfl, rfl, rfl, rfl, F1⟩ N') y'⟩
def sp_transmit_part (K : PySem.W.Frag) : Sp := fun vs H Q _ => ∃ T L n e o a dx pl p n', vs = [.ref L.lk, .ref L.a, .ref a] ∧ Rep K H T L n e o ∧ H a = some (.ins (cP K) dx (fP p pl)) ∧ H pl = some (.lst (p.payload.map V.int)) ∧ T pl = .frz ∧ 0 ≤ p.flag ∧ transmitPart n e p = some n' ∧
  ∀ H' T' L', Rep K H' T' L' n' e o → Nx H T L H' T' L' → L'.y = L.y → Q .non H'
theorem sc_transmit_part : FnScope ["link", "endpoint", "part"] ["link", "endpoint", "part"] (defScope s_transmit_part) := ⟨rfl, rfl, rfl, by decide +kernel, rfl, by decide +kernel, by decide +kernel⟩
theorem ok_transmit_part (D : DefsOk K mg) (F_transmit : OkF P w K mg base "transmit" 3 ["link", "endpoint", "flags", "position", "payload"] (sp_transmit K)) : OkF P w K mg base "transmit_part" 4 ["link", "endpoint", "part"] (sp_transmit_part K) := by
  have M := D.m
  refine okF (st := s_transmit_part) (N := ["link", "endpoint", "part"]) D.d_transmit_part D.g_transmit_part sc_transmit_part (fun vs H Q E h => ?_) (fun _ _ _ _ _ _ us hl => match us, hl with | [_, _, _], _ => rfl) (fun cdv A outer s H vs Q E hr h => ?_)
  · obtain ⟨T, L, n, e, o, a, dx, pl, p, n', rfl, R, ha, hp, tp, nn, ht, hQ⟩ := h
    rfl
  obtain ⟨T, L, n, e, o, a, dx, pl, p, n', rfl, R, ha, hp, tp, nn, ht, hQ⟩ := h
  refine ⟨_, (pss_one (ps_expr (c_call F_transmit (hr.mono (by decide)) rfl (pa_cons (pv 0) (pa_cons (pv 1) (pa_cons (pe_fld (pv 2) rfl) (pa_cons (pe_fld (pv 2) rfl) (pa_cons (pe_fld (pv 2) rfl) pa_nil)))))))), ?_⟩
  exact ⟨_, rfl, _, rfl, _, rfl, _, _, _, _, _, rfl, ha, M.tx.clP, M.tx.nP_flag, lkP_flag, _, rfl, _, _, _, _, _, rfl, ha, M.tx.clP, M.tx.nP_position, lkP_position, _, rfl, _, _, _, _, _, rfl, ha, M.tx.clP, M.tx.nP_payload, lkP_payload, T, L, n, e, o, p.flag, p.position, pl, p.payload, n', rfl, R, hp, tp, nn, ht, hQ⟩
def sp_start_timer (K : PySem.W.Frag) : Sp := fun vs H Q _ => ∃ T L n e o, vs = [.ref L.lk, .ref L.a] ∧ Rep K H T L n e o ∧ ∀ H', Rep K H' T L n (startTimer n e) o → Fr H T H' T → Q .non H'
theorem sc_start_timer : FnScope ["link", "endpoint"] ["link", "endpoint"] (defScope s_start_timer) := ⟨rfl, rfl, rfl, by decide +kernel, rfl, by decide +kernel, by decide +kernel⟩
theorem ok_start_timer (D : DefsOk K mg)  : OkF P w K mg base "start_timer" 1 ["link", "endpoint"] (sp_start_timer K) := by
  have M := D.m
  refine okF (st := s_start_timer) (N := ["link", "endpoint"]) D.d_start_timer D.g_start_timer sc_start_timer (fun vs H Q E h => ?_) (fun _ _ _ _ _ _ us hl => match us, hl with | [_, _], _ => rfl) (fun cdv A outer s H vs Q E hr h => ?_)
  · obtain ⟨T, L, n, e, o, rfl, R, hQ⟩ := h
    rfl
  obtain ⟨T, L, n, e, o, rfl, R, hQ⟩ := h
  refine ⟨_, (pss_one (ps_fld (pv 1) (pe_op op_add (pe_fld (pv 0) rfl) (pe_fld (pv 1) rfl)) rfl)), ?_⟩
  obtain ⟨dl, hl⟩ := R.lk
  obtain ⟨da, ha⟩ := R.ea.obj
  refine ⟨_, rfl, _, _, _, _, _, rfl, hl, M.tx.clL, M.tx.nL_now, lkL_now, _, rfl, _, _, _, _, _, rfl, ha, M.tx.clE, M.tx.nE_timeout, lkE_timeout, _, _, rfl, rfl, _, rfl, _, _, _, _, rfl, ha, M.tx.clE, M.tx.nE_timer, lnE, ?_⟩
  have et := ptE_timer (e := e) (y := L.y) (some (n.now + e.timeout))
  rw [show tV (some (n.now + e.timeout)) = V.int (n.now + e.timeout) from rfl] at et
  rw [et]
  generalize e1 : upd _ _ _ = H1
  obtain ⟨R1, F1⟩ := R.setE (e' := { e with timer := some (n.now + e.timeout) }) e1
  exact hQ H1 R1 F1
def sp_send_part (K : PySem.W.Frag) : Sp := fun vs H Q _ => ∃ T L n e o fl pl, ∃ us : List Int, ∃ r, vs = [.ref L.lk, .ref L.a, .int fl, .ref pl] ∧ Rep K H T L n e o ∧ H pl = some (.lst (us.map V.int)) ∧ T pl = .frz ∧ 0 ≤ fl ∧ sendPart n e fl us = some r ∧
  ∀ H' T' L', Rep K H' T' L' r.1 r.2 o → Nx H T L H' T' L' → Q .non H'
theorem sc_send_part : FnScope ["link", "endpoint", "flag", "payload", "part"] ["link", "endpoint", "flag", "payload"] (defScope s_send_part) := ⟨rfl, rfl, rfl, by decide +kernel, rfl, by decide +kernel, by decide +kernel⟩
theorem ok_send_part (D : DefsOk K mg) (F_start_timer : OkF P w K mg base "start_timer" 1 ["link", "endpoint"] (sp_start_timer K)) (F_transmit_part : OkF P w K mg base "transmit_part" 4 ["link", "endpoint", "part"] (sp_transmit_part K)) (I_Part : OkI P w K mg base "Part" 1 ["self", "position", "flag", "payload", "sent_at"] (sp_Part_init K)) (M_Part_end : OkM P w K mg base (He.ga K "Part") "end" 1 ["self"] (sp_Part_end K)) : OkF P w K mg base "send_part" 5 ["link", "endpoint", "flag", "payload"] (sp_send_part K) := by
  have M := D.m
  refine okF (st := s_send_part) (N := ["link", "endpoint", "flag", "payload", "part"]) D.d_send_part D.g_send_part sc_send_part (fun vs H Q E h => ?_) (fun _ _ _ _ _ _ us hl => match us, hl with | [_, _, _, _], _ => rfl) (fun cdv A outer s H vs Q E hr h => ?_)
  · obtain ⟨T, L, n, e, o, fl, pl, us, r, rfl, R, hpl, tpl, hfl, ht, hQ⟩ := h
    rfl
  obtain ⟨T, L, n, e, o, fl, pl, us, r, rfl, R, hpl, tpl, hfl, ht, hQ⟩ := h
  refine ⟨_, (pss_cons (ps_set (i := 4) sc_send_part.nd rfl (Or.inl rfl) (c_make I_Part (hr.mono (by decide)) rfl (pa_cons (pe_fld (pv 1) rfl) (pa_cons (pv 2) (pa_cons (pv 3) (pa_cons (pe_fld (pv 0) rfl) pa_nil))))))
      (pss_cons (ps_fld (pv 1) (c_meth0 M_Part_end (hr.mono (by decide)) (pv 4)) rfl)
      (pss_cons (ps_expr (pe_bm PySem.F.plainAttrs_list PySem.F.slot_list_append PySem.F.type_list_append mt_append (pe_fld (pv 1) rfl) (pa_cons (pv 4) pa_nil)))
      (pss_cons (ps_expr (c_call F_transmit_part (hr.mono (by decide)) rfl (pa_cons (pv 0) (pa_cons (pv 1) (pa_cons (pv 4) pa_nil)))))
      (pss_one (ps_if (pt_isN (pe_fld (pv 1) rfl)) (pss_one (ps_expr (c_call F_start_timer (hr.mono (by decide)) rfl (pa_cons (pv 0) (pa_cons (pv 1) pa_nil))))) pss_nil)))))), ?_⟩
  unfold sendPart at ht
  split at ht
  case isFalse => cases ht
  rename_i hz
  obtain ⟨n1, hn1, hr⟩ := bind_some ht
  have er := (Option.some.inj hr).symm
  subst er
  obtain ⟨dl, hl⟩ := R.lk
  obtain ⟨da, ha⟩ := R.ea.obj
  refine ⟨_, rfl, _, _, _, _, _, rfl, ha, M.tx.clE, M.tx.nE_next_position, lkE_next_position, _, rfl, _, rfl, _, rfl, _, _, _, _, _, rfl, hl, M.tx.clL, M.tx.nL_now, lkL_now, fun x dx nx nd ndx => ?_⟩
  refine ⟨x, dx, pl, newPart n e fl us, rfl, rfl, rfl, upd_same, fun H1 kp hx1 => ⟨rfl, ?_⟩⟩
  have s1 : Same H H1 := Same.made nx nd kp
  have t1 : ∀ q u, H q = some u → rtg H T x (.pt L.i) q = T q := fun q u h => rtg_old nx h
  have R1 : Rep K H1 (rtg H T x (.pt L.i)) L n e o := R.same s1 t1
  have F1 : Fr H T H1 (rtg H T x (.pt L.i)) := Fr.of_same s1 t1
  have P1 : PartAt K H1 (rtg H T x (.pt L.i)) L.i x (newPart n e fl us) := ⟨⟨dx, pl, hx1, s1 _ _ hpl, (t1 _ _ hpl).trans tpl⟩, rtg_at, hfl⟩
  have hpl1 := s1 _ _ hpl
  have tpl1 := (t1 _ _ hpl).trans tpl
  generalize rtg H T x (.pt L.i) = T1 at R1 F1 P1 tpl1
  obtain ⟨da1, ha1⟩ := R1.ea.obj
  -- endpoint.next_position = part.end()
  refine ⟨_, rfl, x, dx, _, rfl, hx1, rfl, x, dx, pl, newPart n e fl us, rfl, hx1, hpl1, _, rfl, _, _, _, _, rfl, ha1, M.tx.clE, M.tx.nE_next_position, lnE, ?_⟩
  rw [ptE_next_position]
  generalize e2 : upd _ _ _ = H2
  have nax : x ≠ L.a := fun z => by rw [← z, nx] at ha; cases ha
  have nap : pl ≠ L.a := fun z => by rw [← z] at ha; rw [hpl] at ha; cases ha
  obtain ⟨_, o2⟩ := keep_upd e2
  obtain ⟨R2, F2⟩ := R1.setE (e' := { e with next := (newPart n e fl us).fin }) e2
  have hx2 := (o2 x nax).trans hx1
  have hpl2 := (o2 pl nap).trans hpl1
  have P2 : PartAt K H2 T1 L.i x (newPart n e fl us) := ⟨⟨dx, pl, hx2, hpl2, tpl1⟩, P1.tag, hfl⟩
  -- endpoint.parts.append(part)
  obtain ⟨da2, ha2⟩ := R2.ea.obj
  have C2 := R2.ea.c
  refine ⟨_, rfl, _, _, _, _, _, rfl, ha2, M.tx.clE, M.tx.nE_parts, lkE_parts, .inl ⟨rfl, _, SqL.of C2.pts⟩, _, rfl, _, _, _, rfl, rfl, C2.pts, ?_, ?_⟩
  · have e1 : L.y.ps.length = e.parts.length := by rw [R.ea.c.ps, List.length_map]
    rw [List.length_map, e1]
    have h16 : sizeLine = 16777216 := sizeLine_eq
    omega
  have el : (L.y.ps.map fun q => V.ref q.1) ++ [V.ref x] = (L.y.ps ++ [(x, newPart n e fl us)]).map fun q => V.ref q.1 := by rw [List.map_append]; rfl
  rw [el]
  generalize e3 : upd _ _ _ = H3
  have fresh : ∀ q ∈ L.y.ps, q.1 ≠ x := fun q m => by
    obtain ⟨_, _, g, _⟩ := (R.ea.c.part q m).obj
    exact ne_of_none g nx
  obtain ⟨R3, F3⟩ := R2.mutPts (ps' := L.y.ps ++ [(x, newPart n e fl us)]) (fun q m => by
    rcases List.mem_append.mp m with m | m
    · exact C2.part q m
    · rw [List.mem_singleton.mp m]
      exact P2) (by
    rw [List.map_append]
    refine List.nodup_append.mpr ⟨R.ea.c.nd, by simp, fun a ha b hb => ?_⟩
    obtain ⟨q, mq, rfl⟩ := List.mem_map.mp ha
    have eb : b = x := by simpa using hb
    rw [eb]
    exact fresh q mq) e3
  obtain ⟨_, o3⟩ := keep_upd e3
  have npx : x ≠ L.y.pts := ne_of hx2 C2.pts (by intro z; cases z)
  have npp : pl ≠ L.y.pts := fun z => by
    have t := C2.tP
    rw [← show pl = L.y.pts from z, tpl1] at t
    cases t
  have hx3 := (o3 x npx).trans hx2
  have hpl3 := (o3 pl npp).trans hpl2
  have ee : ({ ({ e with next := (newPart n e fl us).fin } : MEnd) with parts := (L.y.ps ++ [(x, newPart n e fl us)]).map (·.2) } : MEnd) = addPart e (newPart n e fl us) := by
    unfold addPart
    rw [List.map_append, ← R.ea.c.ps]
    rfl
  rw [ee] at R3
  -- transmit_part(link, endpoint, part)
  refine ⟨_, rfl, _, rfl, _, rfl, T1, { L with y := { L.y with ps := L.y.ps ++ [(x, newPart n e fl us)] } }, n, addPart e (newPart n e fl us), o, x, dx, pl, newPart n e fl us, n1, rfl, R3, hx3, hpl3, tpl1, hfl, hn1, fun H4 T4 L4 R4 N4 y4 => ?_⟩
  have N : Nx H T L H4 T4 L4 := Nx.trans (L1 := { L with y := { L.y with ps := L.y.ps ++ [(x, newPart n e fl us)] } }) ⟨rfl, rfl, rfl, rfl, (F1.trans F2).trans F3⟩ N4
  have ea4 : L4.a = L.a := N.2.1
  have el4 : L4.lk = L.lk := N.1
  obtain ⟨da4, ha4⟩ := R4.ea.obj
  rw [ea4] at ha4
  refine ⟨_, rfl, _, _, _, _, _, rfl, ha4, M.tx.clE, M.tx.nE_timer, lkE_timer, _, rfl, ?_⟩
  have e5 : decide (tV (addPart e (newPart n e fl us)).timer = V.non) = decide (e.timer = none) := tV_none
  rw [e5]
  refine ifD (c := e.timer = none) (fun c => ?_) (fun c => ?_)
  · refine ⟨_, rfl, _, rfl, T4, L4, n1, addPart e (newPart n e fl us), o, by rw [el4, ea4]; rfl, R4, fun H5 R5 F5 => ?_⟩
    rw [if_pos c] at hQ
    exact hQ H5 T4 L4 R5 (Nx.trans N ⟨rfl, rfl, rfl, rfl, F5⟩)
  · rw [if_neg c] at hQ
    exact hQ H4 T4 L4 R4 N
def sp_send_bytes (K : PySem.W.Frag) : Sp := fun vs H Q _ => ∃ T L n e o many r, vs = [.ref L.lk, .ref L.a, .int many] ∧ Rep K H T L n e o ∧ sendBytes n e many = some r ∧
  ∀ H' T' L', Rep K H' T' L' r.1 r.2 o → Nx H T L H' T' L' → Q .non H'
theorem sc_send_bytes : FnScope ["link", "endpoint", "many", "payload"] ["link", "endpoint", "many"] (defScope s_send_bytes) := ⟨rfl, rfl, rfl, by decide +kernel, rfl, by decide +kernel, by decide +kernel⟩
theorem ok_send_bytes (D : DefsOk K mg) (F_send_part : OkF P w K mg base "send_part" 5 ["link", "endpoint", "flag", "payload"] (sp_send_part K)) : OkF P w K mg base "send_bytes" 6 ["link", "endpoint", "many"] (sp_send_bytes K) := by
  have M := D.m
  refine okF (st := s_send_bytes) (N := ["link", "endpoint", "many", "payload"]) D.d_send_bytes D.g_send_bytes sc_send_bytes (fun vs H Q E h => ?_) (fun _ _ _ _ _ _ us hl => match us, hl with | [_, _, _], _ => rfl) (fun cdv A outer s H vs Q E hr h => ?_)
  · obtain ⟨T, L, n, e, o, many, r, rfl, R, ht, hQ⟩ := h
    rfl
  obtain ⟨T, L, n, e, o, many, r, rfl, R, ht, hQ⟩ := h
  refine ⟨_, (pss_cons (ps_set (i := 3) sc_send_bytes.nd rfl (Or.inl rfl) (pe_slice sl_list (pe_fld (pv 1) rfl) po_none (po_some (pv 2))))
      (pss_cons (ps_fld (pv 1) (pe_slice sl_list (pe_fld (pv 1) rfl) (po_some (pv 2)) po_none) rfl)
      (pss_one (ps_expr (c_call F_send_part (hr.mono (by decide)) rfl (pa_cons (pv 0) (pa_cons (pv 1) (pa_cons pe_int (pa_cons (pv 3) pa_nil))))))))), ?_⟩
  unfold sendBytes at ht
  split at ht
  case isFalse => cases ht
  rename_i hm
  obtain ⟨da, ha⟩ := R.ea.obj
  have C := R.ea.c
  refine ⟨_, rfl, _, _, _, _, _, rfl, ha, M.tx.clE, M.tx.nE_unsent, lkE_unsent, _, rfl, many, rfl, L.y.un, _, rfl, SqL.of C.un, fun p hp => ?_⟩
  rw [cut_take (f := V.int) e.unsent hm]
  generalize e1 : upd _ _ _ = H1
  obtain ⟨R1, F1, hp1, tp1, s1⟩ := R.alloc hp .frz e1
  have C1 := R1.ea.c
  obtain ⟨da1, ha1⟩ := R1.ea.obj
  refine ⟨_, rfl, _, _, _, _, _, rfl, ha1, M.tx.clE, M.tx.nE_unsent, lkE_unsent, _, rfl, many, rfl, L.y.un, _, rfl, SqL.of C1.un, fun p2 hp2 => ?_⟩
  rw [cut_drop (f := V.int) e.unsent hm]
  generalize e2 : upd _ _ _ = H2
  obtain ⟨R2, F2, hp2', tp2, s2⟩ := R1.alloc hp2 .frz e2
  obtain ⟨da2, ha2⟩ := R2.ea.obj
  refine ⟨_, rfl, _, _, _, _, rfl, ha2, M.tx.clE, M.tx.nE_unsent, lnE, ?_⟩
  rw [ptE_unsent]
  generalize e3 : upd _ _ _ = H3
  obtain ⟨R3, F3⟩ := R2.putUn (us := e.unsent.drop many.toNat) hp2' tp2 e3
  obtain ⟨_, o3⟩ := keep_upd e3
  have npa : p ≠ L.a := ne_of hp1 ha1 (by intro z; cases z)
  have hp3 := (o3 p npa).trans (s2 _ _ hp1)
  have tp3 : rtg H1 (rtg H T p .frz) p2 .frz p = .frz := (rtg_old hp2 hp1).trans tp1
  refine ⟨_, rfl, _, rfl, _, rfl, _, { L with y := { L.y with un := p2 } }, n, { e with unsent := e.unsent.drop many.toNat }, o, 0, p, e.unsent.take many.toNat, r, rfl, R3, hp3, tp3, by decide, ht, fun H4 T4 L4 R4 N4 => ?_⟩
  exact hQ H4 T4 L4 R4 (Nx.trans (L1 := { L with y := { L.y with un := p2 } }) ⟨rfl, rfl, rfl, rfl, (F1.trans F2).trans F3⟩ N4)
def sp_allowance_of (K : PySem.W.Frag) : Sp := fun vs H Q _ => ∃ T L n e o, vs = [.ref L.a] ∧ Rep K H T L n e o ∧ Q (.int (allowance e)) H
theorem sc_allowance_of : FnScope ["endpoint"] ["endpoint"] (defScope s_allowance_of) := ⟨rfl, rfl, rfl, by decide +kernel, rfl, by decide +kernel, by decide +kernel⟩
theorem ok_allowance_of (D : DefsOk K mg) (M_Endpoint_in_flight : OkM P w K mg base (He.ga K "Endpoint") "in_flight" 1 ["self"] (sp_Endpoint_in_flight K)) : OkF P w K mg base "allowance_of" 2 ["endpoint"] (sp_allowance_of K) := by
  have M := D.m
  refine okF (st := s_allowance_of) (N := ["endpoint"]) D.d_allowance_of D.g_allowance_of sc_allowance_of (fun vs H Q E h => ?_) (fun _ _ _ _ _ _ us hl => match us, hl with | [_], _ => rfl) (fun cdv A outer s H vs Q E hr h => ?_)
  · obtain ⟨T, L, n, e, o, rfl, R, hQ⟩ := h
    rfl
  obtain ⟨T, L, n, e, o, rfl, R, hQ⟩ := h
  refine ⟨_, (pss_one (ps_ret (pe_callB (call_max2 rfl) (by rfl) M.b_max bt_max (pa_cons pe_int (pa_cons (pe_op op_sub (pe_callB (call_min2 rfl) (by rfl) M.b_min bt_min (pa_cons (pe_fld (pv 0) rfl) (pa_cons (pe_fld (pv 0) rfl) pa_nil))) (c_meth0 M_Endpoint_in_flight (hr.mono (by decide)) (pv 0))) pa_nil))))), ?_⟩
  obtain ⟨da, ha⟩ := R.ea.obj
  exact ⟨_, rfl, _, _, _, _, _, rfl, ha, M.tx.clE, M.tx.nE_congestion, lkE_congestion, _, rfl, _, _, _, _, _, rfl, ha, M.tx.clE, M.tx.nE_peer_window, lkE_peer_window, e.congestion, e.peerWindow, rfl, _, rfl, L.a, da, _, rfl, ha, rfl, L.a, da, e, L.y, rfl, ha, _, _, rfl, rfl, 0, _, rfl, hQ⟩
theorem min3 (a b c : Int) : nuMin3 (.int a) (.int b) (.int c) = some (.int (pmin (pmin a b) c)) := by
  have h : ∀ x y : Int, nuMin2 (.int x) (.int y) = some (.int (pmin x y)) := fun x y => by
    show (some (decide (y < x))).map (fun c => if c = true then V.int y else V.int x) = _
    unfold pmin
    by_cases q : y < x
    · rw [if_pos q, decide_eq_true q]
      rfl
    · rw [if_neg q, decide_eq_false q]
      rfl
  unfold nuMin3
  rw [h]
  exact h _ _
def sp_output (K : PySem.W.Frag) : Sp := fun vs H Q _ => ∃ T L n e o r, vs = [.ref L.lk, .ref L.a] ∧ Rep K H T L n e o ∧ output n e = some r ∧
  ∀ H' T' L', Rep K H' T' L' r.1 r.2 o → Nx H T L H' T' L' → Q .non H'
theorem sc_output : FnScope ["link", "endpoint"] ["link", "endpoint"] (defScope s_output) := ⟨rfl, rfl, rfl, by decide +kernel, rfl, by decide +kernel, by decide +kernel⟩
theorem ok_output (D : DefsOk K mg) (F_allowance_of : OkF P w K mg base "allowance_of" 2 ["endpoint"] (sp_allowance_of K)) (F_send_bytes : OkF P w K mg base "send_bytes" 6 ["link", "endpoint", "many"] (sp_send_bytes K)) (F_send_part : OkF P w K mg base "send_part" 5 ["link", "endpoint", "flag", "payload"] (sp_send_part K)) (F_start_timer : OkF P w K mg base "start_timer" 1 ["link", "endpoint"] (sp_start_timer K)) : OkF P w K mg base "output" 7 ["link", "endpoint"] (sp_output K) := by
  have M := D.m
  refine okF (st := s_output) (N := ["link", "endpoint"]) D.d_output D.g_output sc_output (fun vs H Q E h => ?_) (fun _ _ _ _ _ _ us hl => match us, hl with | [_, _], _ => rfl) (fun cdv A outer s H vs Q E hr h => ?_)
  · obtain ⟨T, L, n, e, o, r, rfl, R, ht, hQ⟩ := h
    rfl
  obtain ⟨T, L, n, e, o, r, rfl, R, ht, hQ⟩ := h
  refine ⟨_, (pss_cons (ps_if (pt_cmp (pc_neI (pe_fld (pv 1) rfl) (pe_kon M.k_ESTABLISHED))) (pss_one ps_retN) pss_nil)
      (pss_cons (ps_while PassesOwn.never (PW.pt (pw_and (pt_cmpR (op_neN (X := _) hr.units) (pe_fld (pv 1) rfl) (pe_lst pa_nil) (nomark _)) (pw_and1 (pt_cmp (pc_gt (c_call F_allowance_of (hr.mono (by decide)) rfl (pa_cons (pv 1) pa_nil)) pe_int))))) (pss_one (ps_expr (c_call F_send_bytes (hr.mono (by decide)) rfl (pa_cons (pv 0) (pa_cons (pv 1) (pa_cons (pe_callB (call_min3Nu rfl) (by rfl) M.b_min bt_min (pa_cons (pe_fld (pe_fld (pv 0) rfl) rfl) (pa_cons (c_call F_allowance_of (hr.mono (by decide)) rfl (pa_cons (pv 1) pa_nil)) (pa_cons (pe_callB call_len_seq (by rfl) M.b_len bt_len (pa_cons (pe_fld (pv 1) rfl) pa_nil)) pa_nil)))) pa_nil)))))))
      (pss_one (ps_if (pt_cmpR (op_eqN (X := _) hr.units) (pe_fld (pv 1) rfl) (pe_lst pa_nil) (nomark _)) (pss_one (ps_if (PW.pt (pw_and (pt_val (pe_fld (pv 1) rfl)) (pw_and1 (pt_not (pt_val (pe_fld (pv 1) rfl)))))) (pss_cons (ps_fld (pv 1) pe_bl rfl)
      (pss_one (ps_expr (c_call F_send_part (hr.mono (by decide)) rfl (pa_cons (pv 0) (pa_cons (pv 1) (pa_cons (pe_kon M.k_FIN) (pa_cons (pe_lst pa_nil) pa_nil)))))))) pss_nil)) (pss_one (ps_if (PW.pt (pw_and (pt_cmpR (op_eqN (X := _) hr.units) (pe_fld (pv 1) rfl) (pe_lst pa_nil) (nomark _)) (pw_and1 (pt_isN (pe_fld (pv 1) rfl))))) (pss_one (ps_expr (c_call F_start_timer (hr.mono (by decide)) rfl (pa_cons (pv 0) (pa_cons (pv 1) pa_nil))))) pss_nil)))))), ?_⟩
  obtain ⟨da, ha⟩ := R.ea.obj
  unfold output at ht
  refine ⟨_, rfl, _, _, _, _, _, rfl, ha, M.tx.clE, M.tx.nE_state, lkE_state, _, _, rfl, rfl, _, rfl, ?_⟩
  refine ifN (c := e.state = 4) (fun c => ?_) (fun c => ?_)
  · rw [if_pos c] at ht
    cases ht
    exact hQ H T L R (Nx.refl H T L)
  rw [if_neg (by rw [c]; simp)] at ht
  obtain ⟨r1, h1, h2⟩ := bind_some ht
  -- while endpoint.unsent != [] and allowance_of(endpoint) > 0
  refine ⟨fun k σ H' => σ = [some (.ref L.lk), some (.ref L.a)] ∧ ∃ T' L' n' e', Rep K H' T' L' n' e' o ∧ Nx H T L H' T' L' ∧ outLoop k n' e' = some r1, ⟨_, rfl, T, L, n, e, R, Nx.refl H T L, h1⟩, ?_⟩
  rintro k σ H' ⟨rfl, T', L', n', e', R', N', h⟩
  have ea' : L'.a = L.a := N'.2.1
  have el' : L'.lk = L.lk := N'.1
  obtain ⟨da', ha'⟩ := R'.ea.obj
  rw [ea'] at ha'
  refine ⟨_, rfl, _, _, _, _, _, rfl, ha', M.tx.clE, M.tx.nE_unsent, lkE_unsent, (by show 0 ≤ sizeLine; decide), fun p hp => ?_⟩
  generalize e1 : upd _ _ _ = H1
  have s1 : Same H' H1 := by rw [← e1]; exact same_upd hp
  have hp1 : H1 p = some (.lst []) := by rw [← e1]; exact upd_same
  obtain ⟨R1, F1⟩ := R'.sameF s1
  have N1 : Nx H T L H1 T' L' := Nx.trans N' ⟨rfl, rfl, rfl, rfl, F1⟩
  have C1 := R1.ea.c
  obtain ⟨da1, ha1⟩ := R1.ea.obj
  rw [ea'] at ha1
  -- the end of the loop, from where it is left
  have leave : ∀ H2 T2 L2, Rep K H2 T2 L2 n' e' o → Nx H T L H2 T2 L2 → outEnd n' e' = some r → 
      tSeq (tIfS (tTest (tOp (rEqN K) (tFld K (tVar 1) "unsent") (tLst tNil))) (tIfS (tAnd (tB (tFld K (tVar 1) "closing")) (tNot (tB (tFld K (tVar 1) "fin_sent")))) (tSeq (sFld K (tVar 1) (tC (.bl true)) "fin_sent") (tDrop (tCall (sp_send_part K) [] E0 (tCons (tVar 0) (tCons (tVar 1) (tCons (tC (.int 2)) (tCons (tLst tNil) tNil))))))) tNext)
        (tIfS (tAnd (tTest (tOp (rEqN K) (tFld K (tVar 1) "parts") (tLst tNil))) (tB (tIsN (tFld K (tVar 1) "timer")))) (tDrop (tCall (sp_start_timer K) [] E0 (tCons (tVar 0) (tCons (tVar 1) tNil)))) tNext)) tNext { nx := fun _ H' => Q .non H', rt := Q } [some (.ref L.lk), some (.ref L.a)] H2 := fun H2 T2 L2 R2 N2 h2 => by
    have ea2 : L2.a = L.a := N2.2.1
    have el2 : L2.lk = L.lk := N2.1
    obtain ⟨da2, ha2⟩ := R2.ea.obj
    rw [ea2] at ha2
    have C2 := R2.ea.c
    unfold outEnd at h2
    refine ⟨_, rfl, _, _, _, _, _, rfl, ha2, M.tx.clE, M.tx.nE_unsent, lkE_unsent, (by show 0 ≤ sizeLine; decide), fun p hp => ?_⟩
    generalize e3 : upd _ _ _ = H3
    have s3 : Same H2 H3 := by rw [← e3]; exact same_upd hp
    have hp3 : H3 p = some (.lst []) := by rw [← e3]; exact upd_same
    obtain ⟨R3, F3⟩ := R2.sameF s3
    have N3 : Nx H T L H3 T2 L2 := Nx.trans N2 ⟨rfl, rfl, rfl, rfl, F3⟩
    have C3 := R3.ea.c
    obtain ⟨da3, ha3⟩ := R3.ea.obj
    rw [ea2] at ha3
    refine ⟨_, p, _, rfl, rfl, SqL.of C3.un, SqL.of hp3, _, rfl, ?_⟩
    refine ifE (fun em => ?_) (fun ne => ?_)
    · have un : e'.unsent = [] := List.map_eq_nil_iff.mp em
      rw [if_pos un] at h2
      refine ⟨_, rfl, _, _, _, _, _, rfl, ha3, M.tx.clE, M.tx.nE_closing, lkE_closing, _, rfl, ?_⟩
      refine ifB (fun c1 => ?_) (fun c1 => ?_)
      · refine ⟨_, rfl, _, _, _, _, _, rfl, ha3, M.tx.clE, M.tx.nE_fin_sent, lkE_fin_sent, _, rfl, ?_⟩
        refine ifNB (fun c2 => ?_) (fun c2 => ?_)
        · rw [if_pos ⟨c1, c2⟩] at h2
          refine ⟨_, rfl, _, _, _, _, rfl, ha3, M.tx.clE, M.tx.nE_fin_sent, lnE, ?_⟩
          rw [ptE_fin_sent]
          generalize e4 : upd _ _ _ = H4
          rw [← ea2] at e4
          obtain ⟨R4, F4⟩ := R3.setE (e' := { e' with finSent := true }) e4
          refine ⟨_, rfl, _, rfl, (by show 0 ≤ sizeLine; decide), fun p5 hp5 => ?_⟩
          generalize e5 : upd _ _ _ = H5
          obtain ⟨R5, F5, hp5', tp5, s5⟩ := R4.alloc hp5 .frz e5
          refine ⟨_, L2, n', { e' with finSent := true }, o, 2, p5, [], r, by rw [el2, ea2]; rfl, R5, hp5', tp5, by decide, h2, fun H6 T6 L6 R6 N6 => ?_⟩
          exact hQ H6 T6 L6 R6 (Nx.trans (Nx.trans N3 ⟨rfl, rfl, rfl, rfl, F4.trans F5⟩) N6)
        · rw [if_neg (by rw [c2]; simp)] at h2
          cases h2
          exact hQ H3 T2 L2 R3 N3
      · rw [if_neg (by rw [c1]; simp)] at h2
        cases h2
        exact iteF (hQ H3 T2 L2 R3 N3)
    · have un : ¬ e'.unsent = [] := fun z => ne (by rw [z]; rfl)
      rw [if_neg un] at h2
      refine ⟨_, rfl, _, _, _, _, _, rfl, ha3, M.tx.clE, M.tx.nE_parts, lkE_parts, (by show 0 ≤ sizeLine; decide), fun p4 hp4 => ?_⟩
      generalize e4 : upd _ _ _ = H4
      have s4 : Same H3 H4 := by rw [← e4]; exact same_upd hp4
      have hp4' : H4 p4 = some (.lst []) := by rw [← e4]; exact upd_same
      obtain ⟨R4, F4⟩ := R3.sameF s4
      have N4 : Nx H T L H4 T2 L2 := Nx.trans N3 ⟨rfl, rfl, rfl, rfl, F4⟩
      have C4 := R4.ea.c
      obtain ⟨da4, ha4⟩ := R4.ea.obj
      rw [ea2] at ha4
      refine ⟨_, p4, _, rfl, rfl, SqL.of C4.pts, SqL.of hp4', _, rfl, ?_⟩
      refine ifE (fun em => ?_) (fun ne2 => ?_)
      · have pn : e'.parts = [] := by rw [C4.ps, List.map_eq_nil_iff.mp em]; rfl
        refine ⟨_, rfl, _, _, _, _, _, rfl, ha4, M.tx.clE, M.tx.nE_timer, lkE_timer, _, rfl, ?_⟩
        rw [tV_none]
        refine ifD (c := e'.timer = none) (fun c1 => ?_) (fun c1 => ?_)
        · rw [if_pos ⟨pn, c1⟩] at h2
          cases h2
          exact ⟨_, rfl, _, rfl, T2, L2, n', e', o, by rw [el2, ea2]; rfl, R4, fun H5 R5 F5 => hQ H5 T2 L2 R5 (Nx.trans N4 ⟨rfl, rfl, rfl, rfl, F5⟩)⟩
        · rw [if_neg (fun z => c1 z.2)] at h2
          cases h2
          exact hQ H4 T2 L2 R4 N4
      · have pn : ¬ e'.parts = [] := fun z => ne2 (by rw [C4.ps] at z; rw [List.map_eq_nil_iff.mp z]; rfl)
        rw [if_neg (fun z => pn z.1)] at h2
        cases h2
        exact iteF (hQ H4 T2 L2 R4 N4)
  refine ⟨_, p, _, rfl, rfl, SqL.of C1.un, SqL.of hp1, _, rfl, ?_⟩
  refine ifNE (fun ne => ?_) (fun em => ?_)
  · have un : e'.unsent ≠ [] := fun z => ne (by rw [z]; rfl)
    refine ⟨_, rfl, T', L', n', e', o, by rw [ea']; rfl, R1, ?_⟩
    refine ⟨_, _, rfl, rfl, _, rfl, ?_⟩
    refine ifD (c := 0 < allowance e') (fun c1 => ?_) (fun c1 => ?_)
    · cases k with
      | zero =>
        unfold outLoop at h
        rw [if_neg un] at h
        cases h
      | succ k =>
        unfold outLoop at h
        rw [if_pos ⟨un, c1⟩] at h
        obtain ⟨r2, g1, g2⟩ := bind_some h
        refine ⟨_, fun σ' H' w => ⟨k, Nat.lt_succ_self k, w⟩, ?_⟩
        obtain ⟨dl1, hl1⟩ := R1.lk
        obtain ⟨ds1, hs1⟩ := R1.st
        rw [el'] at hl1
        refine ⟨_, rfl, _, rfl, _, rfl, _, _, _, _, _, rfl, hl1, M.tx.clL, M.tx.nL_settings, lkL_settings, _, _, _, _, _, rfl, hs1, M.tx.clS, M.tx.nS_segment_size, lkS_segment_size, _, rfl, T', L', n', e', o, by rw [ea']; rfl, R1, _, rfl, _, _, _, _, _, rfl, ha1, M.tx.clE, M.tx.nE_unsent, lkE_unsent, _, _, rfl, .inl (SqL.of C1.un), _, _, _, _, rfl, min3 _ _ _, ?_⟩
        rw [List.length_map]
        refine ⟨T', L', n', e', o, _, r2, by rw [el', ea']; rfl, R1, g1, fun H2 T2 L2 R2 N2 => ?_⟩
        exact ⟨rfl, T2, L2, r2.1, r2.2, R2, Nx.trans N1 N2, g2⟩
    · have e4 : r1 = (n', e') := by
        cases k with
        | zero =>
          unfold outLoop at h
          rw [if_neg un] at h
          cases h
        | succ k =>
          unfold outLoop at h
          rw [if_neg (fun z => c1 z.2)] at h
          exact (Option.some.inj h).symm
      rw [e4] at h2
      exact leave H1 T' L' R1 N1 h2
  · have un : e'.unsent = [] := List.map_eq_nil_iff.mp em
    have e4 : r1 = (n', e') := by
      cases k with
      | zero =>
        unfold outLoop at h
        rw [if_pos un] at h
        exact (Option.some.inj h).symm
      | succ k =>
        unfold outLoop at h
        rw [if_neg (fun z => z.1 un)] at h
        exact (Option.some.inj h).symm
    rw [e4] at h2
    exact iteF (leave H1 T' L' R1 N1 h2)
end
end Ws
set_option Elab.async false
set_option linter.all false
set_option maxRecDepth 100000
set_option maxHeartbeats 4000000
namespace Ws
open PySem PySem.Spec PyProof.Rows L2 Wt

section
variable {P : Program} {w : World} {K : PySem.W.Frag} {mg : Str → Option Value} {base : Heap}
def sp_retransmit (K : PySem.W.Frag) : Sp := fun vs H Q _ => ∃ T L n e o r, vs = [.ref L.lk, .ref L.a] ∧ Rep K H T L n e o ∧ retransmit n e = some r ∧
  ∀ H' T' L', Rep K H' T' L' r.1 r.2 o → Nx H T L H' T' L' → Q .non H'
theorem unmarked_at {e : MEnd} {k : Nat} (h : e.unmarked = some k) : ∃ p, e.parts[k]? = some p := by
  unfold MEnd.unmarked at h
  obtain ⟨hl, _⟩ := List.findIdx?_eq_some_iff_getElem.mp h
  exact ⟨_, List.getElem?_eq_getElem hl⟩
theorem ps_at {K : PySem.W.Frag} {H : Hp} {T : Tm} {i : Bool} {y : ELay} {e : MEnd} {k : Nat} {p : MPart} (C : EndC K H T i y e) (h : e.parts[k]? = some p) : ∃ a, y.ps[k]? = some (a, p) := by
  rw [C.ps, List.getElem?_map] at h
  obtain ⟨q, hq, rfl⟩ := Option.map_eq_some_iff.mp h
  exact ⟨q.1, hq⟩
theorem sc_retransmit : FnScope ["link", "endpoint", "part"] ["link", "endpoint"] (defScope s_retransmit) := ⟨rfl, rfl, rfl, by decide +kernel, rfl, by decide +kernel, by decide +kernel⟩
theorem ok_retransmit (D : DefsOk K mg) (F_transmit_part : OkF P w K mg base "transmit_part" 4 ["link", "endpoint", "part"] (sp_transmit_part K)) (M_Endpoint_first_unmarked : OkM P w K mg base (He.ga K "Endpoint") "first_unmarked" 1 ["self"] (sp_Endpoint_first_unmarked K)) : OkF P w K mg base "retransmit" 5 ["link", "endpoint"] (sp_retransmit K) := by
  have M := D.m
  refine okF (st := s_retransmit) (N := ["link", "endpoint", "part"]) D.d_retransmit D.g_retransmit sc_retransmit (fun vs H Q E h => ?_) (fun _ _ _ _ _ _ us hl => match us, hl with | [_, _], _ => rfl) (fun cdv A outer s H vs Q E hr h => ?_)
  · obtain ⟨T, L, n, e, o, r, rfl, R, ht, hQ⟩ := h
    rfl
  obtain ⟨T, L, n, e, o, r, rfl, R, ht, hQ⟩ := h
  refine ⟨_, (pss_cons (ps_set (i := 2) sc_retransmit.nd rfl (Or.inl rfl) (c_meth0 M_Endpoint_first_unmarked (hr.mono (by decide)) (pv 1)))
      (pss_one (ps_if (pt_notN (pv 2)) (pss_cons (ps_fldaug (pv 2) pe_int in_add)
      (pss_cons (ps_fldaug (pv 1) pe_int in_add)
      (pss_one (ps_expr (c_call F_transmit_part (hr.mono (by decide)) rfl (pa_cons (pv 0) (pa_cons (pv 1) (pa_cons (pv 2) pa_nil)))))))) pss_nil))), ?_⟩
  unfold retransmit at ht
  obtain ⟨da, ha⟩ := R.ea.obj
  refine ⟨_, rfl, L.a, da, _, rfl, ha, rfl, T, L, n, e, o, rfl, R, fun hn => ?_, fun k q hk hq => ?_⟩
  · rw [hn] at ht
    cases ht
    refine ⟨_, rfl, _, rfl, ?_⟩
    exact iteF (hQ H T L R (Nx.refl H T L))
  · rw [hk] at ht
    obtain ⟨a, p⟩ := q
    have hp : e.parts[k]? = some p := by rw [R.ea.c.ps, List.getElem?_map, hq]; rfl
    have ht : (match e.parts[k]? with
      | none => none
      | some p => (transmitPart n { e with parts := e.parts.set k { p with transmissions := p.transmissions + 1 }, retrans := e.retrans + 1 } { p with transmissions := p.transmissions + 1 }).bind fun n1 =>
        some (n1, ({ e with parts := e.parts.set k { p with transmissions := p.transmissions + 1 }, retrans := e.retrans + 1 } : MEnd))) = some r := ht
    rw [hp] at ht
    obtain ⟨n1, g1, g2⟩ := bind_some ht
    cases g2
    refine ⟨_, rfl, _, rfl, ?_⟩
    refine iteT ?_
    have P := R.ea.c.part _ (List.mem_of_getElem? hq)
    obtain ⟨dp, pl, hp1, hp2, hp3⟩ := P.obj
    have nn := P.nn
    refine ⟨_, rfl, _, _, _, _, _, rfl, hp1, M.tx.clP, M.tx.nP_transmissions, lkP_transmissions, _, _, rfl, rfl, dp, _, hp1, lnP, ?_⟩
    rw [ptP_transmissions]
    generalize e1 : upd _ _ _ = H1
    obtain ⟨R1, F1⟩ := R.mutPart (q' := { p with transmissions := p.transmissions + 1 }) hq hp2 hp3 nn e1
    obtain ⟨hq1, o1⟩ := keep_upd e1
    have npl : pl ≠ a := fun z => by rw [z, hp1] at hp2; cases hp2
    have hpl1 := (o1 pl npl).trans hp2
    obtain ⟨da1, ha1⟩ := R1.ea.obj
    refine ⟨_, rfl, _, _, _, _, _, rfl, ha1, M.tx.clE, M.tx.nE_retransmissions, lkE_retransmissions, _, _, rfl, rfl, da1, _, ha1, lnE, ?_⟩
    rw [ptE_retransmissions]
    generalize e2 : upd _ _ _ = H2
    obtain ⟨R2, F2⟩ := R1.setE (e' := { e with parts := e.parts.set k { p with transmissions := p.transmissions + 1 }, retrans := e.retrans + 1 }) e2
    obtain ⟨_, o2⟩ := keep_upd e2
    have na : a ≠ L.a := fun z => by
      have t1 := P.tag
      have t2 := R.ea.tA
      rw [← z, t1] at t2
      cases t2
    have npa : pl ≠ L.a := fun z => by
      have t2 := R.ea.tA
      rw [← z, hp3] at t2
      cases t2
    exact ⟨_, rfl, _, rfl, _, rfl, T, { L with y := { L.y with ps := L.y.ps.set k (a, { p with transmissions := p.transmissions + 1 }) } }, n, _, o, a, dp, pl, { p with transmissions := p.transmissions + 1 }, n1, rfl, R2, (o2 a na).trans hq1, (o2 pl npa).trans hpl1, hp3, nn, g1, fun H3 T3 L3 R3 N3 _ => hQ H3 T3 L3 R3 (Nx.trans (L1 := { L with y := { L.y with ps := L.y.ps.set k (a, { p with transmissions := p.transmissions + 1 }) } }) ⟨rfl, rfl, rfl, rfl, F1.trans F2⟩ N3)⟩
def sp_halved (K : PySem.W.Frag) : Sp := fun vs H Q _ => ∃ T L n e o, vs = [.ref L.lk, .ref L.a] ∧ Rep K H T L n e o ∧ Q (.int (halved n e)) H
theorem sc_halved : FnScope ["link", "endpoint"] ["link", "endpoint"] (defScope s_halved) := ⟨rfl, rfl, rfl, by decide +kernel, rfl, by decide +kernel, by decide +kernel⟩
theorem ok_halved (D : DefsOk K mg) (M_Endpoint_in_flight : OkM P w K mg base (He.ga K "Endpoint") "in_flight" 1 ["self"] (sp_Endpoint_in_flight K)) : OkF P w K mg base "halved" 2 ["link", "endpoint"] (sp_halved K) := by
  have M := D.m
  refine okF (st := s_halved) (N := ["link", "endpoint"]) D.d_halved D.g_halved sc_halved (fun vs H Q E h => ?_) (fun _ _ _ _ _ _ us hl => match us, hl with | [_, _], _ => rfl) (fun cdv A outer s H vs Q E hr h => ?_)
  · obtain ⟨T, L, n, e, o, rfl, R, hQ⟩ := h
    rfl
  obtain ⟨T, L, n, e, o, rfl, R, hQ⟩ := h
  refine ⟨_, (pss_one (ps_ret (pe_callB (call_max2 rfl) (by rfl) M.b_max bt_max (pa_cons (pe_op op_fdiv (c_meth0 M_Endpoint_in_flight (hr.mono (by decide)) (pv 1)) pe_int) (pa_cons (pe_op op_mul pe_int (pe_fld (pe_fld (pv 0) rfl) rfl)) pa_nil))))), ?_⟩
  obtain ⟨dl, hl⟩ := R.lk
  obtain ⟨ds, hs⟩ := R.st
  obtain ⟨da, ha⟩ := R.ea.obj
  exact ⟨_, rfl, L.a, da, _, rfl, ha, rfl, L.a, da, e, L.y, rfl, ha, _, 2, rfl, rfl, ⟨by decide, by decide⟩, _, rfl, _, _, _, _, _, rfl, hl, M.tx.clL, M.tx.nL_settings, lkL_settings, _, _, _, _, _, rfl, hs, M.tx.clS, M.tx.nS_segment_size, lkS_segment_size, 2, _, rfl, rfl, .inl ⟨by decide, by decide⟩, _, _, rfl, hQ⟩
def sp_double_timeout (K : PySem.W.Frag) : Sp := fun vs H Q _ => ∃ T L n e o, vs = [.ref L.a] ∧ Rep K H T L n e o ∧ ∀ H', Rep K H' T L n (doubled e) o → Fr H T H' T → Q .non H'
theorem sc_double_timeout : FnScope ["endpoint"] ["endpoint"] (defScope s_double_timeout) := ⟨rfl, rfl, rfl, by decide +kernel, rfl, by decide +kernel, by decide +kernel⟩
theorem ok_double_timeout (D : DefsOk K mg)  : OkF P w K mg base "double_timeout" 1 ["endpoint"] (sp_double_timeout K) := by
  have M := D.m
  refine okF (st := s_double_timeout) (N := ["endpoint"]) D.d_double_timeout D.g_double_timeout sc_double_timeout (fun vs H Q E h => ?_) (fun _ _ _ _ _ _ us hl => match us, hl with | [_], _ => rfl) (fun cdv A outer s H vs Q E hr h => ?_)
  · obtain ⟨T, L, n, e, o, rfl, R, hQ⟩ := h
    rfl
  obtain ⟨T, L, n, e, o, rfl, R, hQ⟩ := h
  refine ⟨_, (pss_one (ps_fld (pv 0) (pe_callB (call_min2 rfl) (by rfl) M.b_min bt_min (pa_cons (pe_op op_mul pe_int (pe_fld (pv 0) rfl)) (pa_cons (pe_kon M.k_MOST_TIMEOUT) pa_nil))) rfl)), ?_⟩
  obtain ⟨da, ha⟩ := R.ea.obj
  refine ⟨_, rfl, _, _, _, _, _, rfl, ha, M.tx.clE, M.tx.nE_timeout, lkE_timeout, 2, e.timeout, rfl, rfl, .inl ⟨by decide, by decide⟩, _, _, rfl, _, rfl, _, _, _, _, rfl, ha, M.tx.clE, M.tx.nE_timeout, lnE, ?_⟩
  rw [ptE_timeout]
  generalize e1 : upd _ _ _ = H1
  obtain ⟨R1, F1⟩ := R.setE (e' := doubled e) e1
  exact hQ H1 R1 F1
def sp_Endpoint_fail (K : PySem.W.Frag) : Sp := fun vs H Q _ => ∃ T L n e o, vs = [.ref L.a] ∧ Rep K H T L n e o ∧ ∀ H' T' L', Rep K H' T' L' n e.failed o → Nx H T L H' T' L' → Q .non H'
theorem sc_Endpoint_fail : FnScope ["self"] ["self"] (defScope s_Endpoint_fail) := ⟨rfl, rfl, rfl, by decide +kernel, rfl, by decide +kernel, by decide +kernel⟩
theorem ok_Endpoint_fail (D : DefsOk K mg)  : OkM P w K mg base (He.ga K "Endpoint") "fail" 1 ["self"] (sp_Endpoint_fail K) := by
  have M := D.m
  refine okM (st := s_Endpoint_fail) (N := ["self"]) D.d_Endpoint_fail D.me_Endpoint_fail D.m.tx.clE sc_Endpoint_fail (fun vs H Q E h => ?_) (fun _ _ _ _ _ _ us hl => match us, hl with | [_], _ => rfl) (fun cdv A outer s H vs Q E hr h => ?_)
  · obtain ⟨T, L, n, e, o, rfl, R, hQ⟩ := h
    rfl
  obtain ⟨T, L, n, e, o, rfl, R, hQ⟩ := h
  refine ⟨_, (pss_cons (ps_fld (pv 0) (pe_kon M.k_FAILED) rfl)
      (pss_cons (ps_fld (pv 0) (pe_lst pa_nil) rfl)
      (pss_cons (ps_fld (pv 0) (pe_lst pa_nil) rfl)
      (pss_one (ps_fld (pv 0) pe_non rfl))))), ?_⟩
  obtain ⟨da, ha⟩ := R.ea.obj
  refine ⟨_, rfl, _, _, _, _, rfl, ha, M.tx.clE, M.tx.nE_state, lnE, ?_⟩
  rw [ptE_state]
  generalize e1 : upd _ _ _ = H1
  obtain ⟨R1, F1⟩ := R.setE (e' := { e with state := 8 }) e1
  refine ⟨by show 0 ≤ sizeLine; decide, fun p hp => ?_⟩
  generalize e2 : upd _ _ _ = H2
  obtain ⟨R2, F2, hp2, tp2, _⟩ := R1.alloc hp .frz e2
  obtain ⟨da2, ha2⟩ := R2.ea.obj
  refine ⟨_, rfl, _, _, _, _, rfl, ha2, M.tx.clE, M.tx.nE_unsent, lnE, ?_⟩
  rw [ptE_unsent]
  generalize e3 : upd _ _ _ = H3
  obtain ⟨R3, F3⟩ := R2.putUn (us := []) hp2 tp2 e3
  refine ⟨by show 0 ≤ sizeLine; decide, fun p4 hp4 => ?_⟩
  generalize e4 : upd _ _ _ = H4
  obtain ⟨R4, F4, hp4', tp4, _⟩ := R3.alloc hp4 (.pts L.i) e4
  obtain ⟨da4, ha4⟩ := R4.ea.obj
  refine ⟨_, rfl, _, _, _, _, rfl, ha4, M.tx.clE, M.tx.nE_parts, lnE, ?_⟩
  rw [ptE_parts]
  generalize e5 : upd _ _ _ = H5
  obtain ⟨R5, F5⟩ := R4.putPts (ps' := []) hp4' tp4 (fun _ h => nomatch h) List.nodup_nil e5
  obtain ⟨da5, ha5⟩ := R5.ea.obj
  refine ⟨_, rfl, _, _, _, _, rfl, ha5, M.tx.clE, M.tx.nE_timer, lnE, ?_⟩
  have et := ptE_timer (e := { e with state := 8, unsent := [], parts := [] }) (y := { L.y with un := p, pts := p4, ps := [] }) none
  rw [show tV none = V.non from rfl] at et
  have eg : fE ({ ({ ({ e with state := 8 } : MEnd) with unsent := [] } : MEnd) with parts := ([] : List (Addr × MPart)).map (·.2) } : MEnd) { ({ L.y with un := p } : ELay) with pts := p4, ps := [] } = fE { e with state := 8, unsent := [], parts := [] } { L.y with un := p, pts := p4, ps := [] } := rfl
  rw [eg, et]
  generalize e6 : upd _ _ _ = H6
  obtain ⟨R6, F6⟩ := R5.setE (e' := e.failed) e6
  exact hQ H6 _ _ R6 ⟨rfl, rfl, rfl, rfl, ((((F1.trans F2).trans F3).trans F4).trans F5).trans F6⟩
def sp_expire (K : PySem.W.Frag) : Sp := fun vs H Q _ => ∃ T L n e o r, vs = [.ref L.lk, .ref L.a] ∧ Rep K H T L n e o ∧ expire n e = some r ∧
  ∀ H' T' L', Rep K H' T' L' r.1 r.2 o → Nx H T L H' T' L' → Q .non H'
theorem sc_expire : FnScope ["link", "endpoint", "part"] ["link", "endpoint"] (defScope s_expire) := ⟨rfl, rfl, rfl, by decide +kernel, rfl, by decide +kernel, by decide +kernel⟩
theorem ok_expire (D : DefsOk K mg) (F_double_timeout : OkF P w K mg base "double_timeout" 1 ["endpoint"] (sp_double_timeout K)) (F_halved : OkF P w K mg base "halved" 2 ["link", "endpoint"] (sp_halved K)) (F_retransmit : OkF P w K mg base "retransmit" 5 ["link", "endpoint"] (sp_retransmit K)) (F_send_bytes : OkF P w K mg base "send_bytes" 6 ["link", "endpoint", "many"] (sp_send_bytes K)) (F_start_timer : OkF P w K mg base "start_timer" 1 ["link", "endpoint"] (sp_start_timer K)) (M_Endpoint_fail : OkM P w K mg base (He.ga K "Endpoint") "fail" 1 ["self"] (sp_Endpoint_fail K)) (M_Endpoint_first_unmarked : OkM P w K mg base (He.ga K "Endpoint") "first_unmarked" 1 ["self"] (sp_Endpoint_first_unmarked K)) : OkF P w K mg base "expire" 7 ["link", "endpoint"] (sp_expire K) := by
  have M := D.m
  refine okF (st := s_expire) (N := ["link", "endpoint", "part"]) D.d_expire D.g_expire sc_expire (fun vs H Q E h => ?_) (fun _ _ _ _ _ _ us hl => match us, hl with | [_, _], _ => rfl) (fun cdv A outer s H vs Q E hr h => ?_)
  · obtain ⟨T, L, n, e, o, r, rfl, R, ht, hQ⟩ := h
    rfl
  obtain ⟨T, L, n, e, o, r, rfl, R, ht, hQ⟩ := h
  refine ⟨_, (pss_cons (ps_fld (pv 1) pe_non rfl)
      (pss_cons (ps_if (pt_cmpR (op_eqN (X := _) hr.units) (pe_fld (pv 1) rfl) (pe_lst pa_nil) (nomark _)) (pss_cons (ps_if (pt_cmpR (op_neN (X := _) hr.units) (pe_fld (pv 1) rfl) (pe_lst pa_nil) (nomark _)) (pss_cons (ps_expr (c_call F_double_timeout (hr.mono (by decide)) rfl (pa_cons (pv 1) pa_nil)))
      (pss_one (ps_expr (c_call F_send_bytes (hr.mono (by decide)) rfl (pa_cons (pv 0) (pa_cons (pv 1) (pa_cons pe_int pa_nil))))))) pss_nil)
      (pss_one ps_retN)) pss_nil)
      (pss_cons (ps_set (i := 2) sc_expire.nd rfl (Or.inl rfl) (c_meth0 M_Endpoint_first_unmarked (hr.mono (by decide)) (pv 1)))
      (pss_cons (ps_if (PW.pt (pw_and (pt_notN (pv 2)) (pw_and1 (pt_cmp (pc_ge (pe_fld (pv 2) rfl) (pe_fld (pe_fld (pv 0) rfl) rfl)))))) (pss_cons (ps_expr (c_meth0 M_Endpoint_fail (hr.mono (by decide)) (pv 1)))
      (pss_one ps_retN)) pss_nil)
      (pss_cons (ps_fld (pv 1) (c_call F_halved (hr.mono (by decide)) rfl (pa_cons (pv 0) (pa_cons (pv 1) pa_nil))) rfl)
      (pss_cons (ps_fld (pv 1) (pe_fld (pe_fld (pv 0) rfl) rfl) rfl)
      (pss_cons (ps_expr (c_call F_double_timeout (hr.mono (by decide)) rfl (pa_cons (pv 1) pa_nil)))
      (pss_cons (ps_expr (c_call F_start_timer (hr.mono (by decide)) rfl (pa_cons (pv 0) (pa_cons (pv 1) pa_nil))))
      (pss_cons (ps_fld (pv 1) pe_int rfl)
      (pss_one (ps_expr (c_call F_retransmit (hr.mono (by decide)) rfl (pa_cons (pv 0) (pa_cons (pv 1) pa_nil)))))))))))))), ?_⟩
  unfold expire at ht
  obtain ⟨da, ha⟩ := R.ea.obj
  refine ⟨_, rfl, _, _, _, _, rfl, ha, M.tx.clE, M.tx.nE_timer, lnE, ?_⟩
  have et := ptE_timer (e := e) (y := L.y) none
  rw [show tV none = V.non from rfl] at et
  rw [et]
  generalize e1 : upd _ _ _ = H1
  obtain ⟨R1, F1⟩ := R.setE (e' := { e with timer := none }) e1
  obtain ⟨da1, ha1⟩ := R1.ea.obj
  refine ⟨_, rfl, _, _, _, _, _, rfl, ha1, M.tx.clE, M.tx.nE_parts, lkE_parts, (by show 0 ≤ sizeLine; decide), fun p hp => ?_⟩
  generalize e2 : upd _ _ _ = H2
  have s2 : Same H1 H2 := by rw [← e2]; exact same_upd hp
  have hp2 : H2 p = some (.lst []) := by rw [← e2]; exact upd_same
  obtain ⟨R2, F2⟩ := R1.sameF s2
  have C2 := R2.ea.c
  obtain ⟨da2, ha2⟩ := R2.ea.obj
  have F12 := F1.trans F2
  refine ⟨_, p, _, rfl, rfl, SqL.of C2.pts, SqL.of hp2, _, rfl, ?_⟩
  refine ifE (fun em => ?_) (fun ne => ?_)
  · have pn : e.parts = [] := by
      have : ({ e with timer := none } : MEnd).parts = L.y.ps.map (·.2) := C2.ps
      rw [show e.parts = _ from this, List.map_eq_nil_iff.mp em]
      rfl
    rw [if_pos pn] at ht
    refine ⟨_, rfl, _, _, _, _, _, rfl, ha2, M.tx.clE, M.tx.nE_unsent, lkE_unsent, (by show 0 ≤ sizeLine; decide), fun p3 hp3 => ?_⟩
    generalize e3 : upd _ _ _ = H3
    have s3 : Same H2 H3 := by rw [← e3]; exact same_upd hp3
    have hp3' : H3 p3 = some (.lst []) := by rw [← e3]; exact upd_same
    obtain ⟨R3, F3⟩ := R2.sameF s3
    refine ⟨_, p3, _, rfl, rfl, SqL.of R3.ea.c.un, SqL.of hp3', _, rfl, ?_⟩
    refine ifNE (fun ne => ?_) (fun em2 => ?_)
    · have un : e.unsent ≠ [] := fun z => ne (by show e.unsent.map V.int = []; rw [z]; rfl)
      rw [if_pos un] at ht
      refine ⟨_, rfl, T, L, n, _, o, rfl, R3, fun H4 R4 F4 => ?_⟩
      refine ⟨_, rfl, _, rfl, T, L, n, _, o, 1, r, rfl, R4, ht, fun H5 T5 L5 R5 N5 => ?_⟩
      exact hQ H5 T5 L5 R5 (Nx.trans ⟨rfl, rfl, rfl, rfl, (F12.trans F3).trans F4⟩ N5)
    · have un : e.unsent = [] := List.map_eq_nil_iff.mp em2
      rw [if_neg (fun z => z un)] at ht
      cases ht
      exact hQ H3 T L R3 ⟨rfl, rfl, rfl, rfl, F12.trans F3⟩
  · have pn : ¬ e.parts = [] := fun z => by
      have e3 : ({ e with timer := none } : MEnd).parts = L.y.ps.map (·.2) := C2.ps
      rw [show ({ e with timer := none } : MEnd).parts = e.parts from rfl, z] at e3
      exact ne (by rw [List.map_eq_nil_iff.mp e3.symm]; rfl)
    rw [if_neg pn] at ht
    have um : ({ e with timer := none } : MEnd).unmarked = e.unmarked := rfl
    -- what follows where the endpoint does not fail
    have go : retransmit n (backOff n { e with timer := none }) = some r → ∀ v : V, tSeq (sFld K (tVar 1) (tCall (sp_halved K) [] E0 (tCons (tVar 0) (tCons (tVar 1) tNil))) "threshold") (tSeq (sFld K (tVar 1) (tFld K (tFld K (tVar 0) "settings") "segment_size") "congestion") (tSeq (tDrop (tCall (sp_double_timeout K) [] E0 (tCons (tVar 1) tNil)))
        (tSeq (tDrop (tCall (sp_start_timer K) [] E0 (tCons (tVar 0) (tCons (tVar 1) tNil)))) (tSeq (sFld K (tVar 1) (tC (.int 0)) "duplicates") (tDrop (tCall (sp_retransmit K) [] E0 (tCons (tVar 0) (tCons (tVar 1) tNil)))))))) { nx := fun _ H' => Q .non H', rt := Q } [some (.ref L.lk), some (.ref L.a), some v] H2 := fun hr v => by
      refine ⟨_, rfl, _, rfl, T, L, n, _, o, rfl, R2, _, rfl, _, _, _, _, rfl, ha2, M.tx.clE, M.tx.nE_threshold, lnE, ?_⟩
      rw [ptE_threshold]
      generalize e3 : upd _ _ _ = H3
      obtain ⟨R3, F3⟩ := R2.setE (e' := { e with timer := none, threshold := halved n e }) e3
      obtain ⟨da3, ha3⟩ := R3.ea.obj
      obtain ⟨dl3, hl3⟩ := R3.lk
      obtain ⟨ds3, hs3⟩ := R3.st
      refine ⟨_, rfl, _, _, _, _, _, rfl, hl3, M.tx.clL, M.tx.nL_settings, lkL_settings, _, _, _, _, _, rfl, hs3, M.tx.clS, M.tx.nS_segment_size, lkS_segment_size, _, rfl, _, _, _, _, rfl, ha3, M.tx.clE, M.tx.nE_congestion, lnE, ?_⟩
      rw [ptE_congestion]
      generalize e4 : upd _ _ _ = H4
      obtain ⟨R4, F4⟩ := R3.setE (e' := { e with timer := none, threshold := halved n e, congestion := n.size }) e4
      refine ⟨_, rfl, T, L, n, _, o, rfl, R4, fun H5 R5 F5 => ?_⟩
      refine ⟨_, rfl, _, rfl, T, L, n, _, o, rfl, R5, fun H6 R6 F6 => ?_⟩
      obtain ⟨da6, ha6⟩ := R6.ea.obj
      refine ⟨_, rfl, _, _, _, _, rfl, ha6, M.tx.clE, M.tx.nE_duplicates, lnE, ?_⟩
      rw [ptE_duplicates]
      generalize e7 : upd _ _ _ = H7
      obtain ⟨R7, F7⟩ := R6.setE (e' := backOff n { e with timer := none }) e7
      refine ⟨_, rfl, _, rfl, T, L, n, _, o, r, rfl, R7, hr, fun H8 T8 L8 R8 N8 => ?_⟩
      exact hQ H8 T8 L8 R8 (Nx.trans ⟨rfl, rfl, rfl, rfl, ((((F12.trans F3).trans F4).trans F5).trans F6).trans F7⟩ N8)
    refine ⟨_, rfl, L.a, da2, _, rfl, ha2, rfl, T, L, n, _, o, rfl, R2, fun hn => ?_, fun k q hk hq => ?_⟩
    · rw [um] at hn
      rw [hn] at ht
      refine ⟨_, rfl, _, rfl, ?_⟩
      exact iteF (iteF (go ht .non))
    · rw [um] at hk
      rw [hk] at ht
      obtain ⟨a, q⟩ := q
      have hp : e.parts[k]? = some q := by
        have e3 : ({ e with timer := none } : MEnd).parts = L.y.ps.map (·.2) := C2.ps
        rw [show e.parts = _ from e3, List.getElem?_map, hq]
        rfl
      have ht : (match e.parts[k]? with
        | none => none
        | some p => if p.transmissions ≥ n.attempts then some (n, ({ e with timer := none } : MEnd).failed) else retransmit n (backOff n { e with timer := none })) = some r := ht
      rw [hp] at ht
      obtain ⟨dp, pl, hp1, hp2, hp3⟩ := (C2.part _ (List.mem_of_getElem? hq)).obj
      obtain ⟨dl2, hl2⟩ := R2.lk
      obtain ⟨ds2, hs2⟩ := R2.st
      refine ⟨_, rfl, _, rfl, ?_⟩
      refine iteT ⟨_, rfl, _, _, _, _, _, rfl, hp1, M.tx.clP, M.tx.nP_transmissions, lkP_transmissions, _, rfl, _, _, _, _, _, rfl, hl2, M.tx.clL, M.tx.nL_settings, lkL_settings, _, _, _, _, _, rfl, hs2, M.tx.clS, M.tx.nS_attempts, lkS_attempts, _, _, rfl, rfl, _, rfl, ?_⟩
      refine ifD (c := n.attempts ≤ q.transmissions) (fun c => ?_) (fun c => ?_)
      · have ht2 : some (n, ({ e with timer := none } : MEnd).failed) = some r := (if_pos (show q.transmissions ≥ n.attempts from c)).symm.trans ht
        cases ht2
        refine ⟨_, rfl, L.a, da2, _, rfl, ha2, rfl, T, L, n, _, o, rfl, R2, fun H3 T3 L3 R3 N3 => ?_⟩
        exact hQ H3 T3 L3 R3 (Nx.trans ⟨rfl, rfl, rfl, rfl, F12⟩ N3)
      · exact go ((if_neg (show ¬ q.transmissions ≥ n.attempts from c)).symm.trans ht) (.ref a)
end
end Ws
set_option Elab.async false
set_option linter.all false
set_option maxRecDepth 100000
set_option maxHeartbeats 4000000
namespace Ws
open PySem PySem.Spec PyProof.Rows L2 Wt

section
variable {P : Program} {w : World} {K : PySem.W.Frag} {mg : Str → Option Value} {base : Heap}
theorem Fr.kp {H H' : Hp} {T T' : Tm} (f : Fr H T H' T') : Kp (fun t => t = .frz) H T H' T' := fun p o h t => ⟨(f p o h).2.2 (.inl t), (f p o h).1⟩
theorem SegAt.fr {K : PySem.W.Frag} {H H' : Hp} {T T' : Tm} {a : Addr} {g : MSeg} (x : SegAt K H T a g) (f : Fr H T H' T') : SegAt K H' T' a g := x.kp f.kp rfl
def sp_take_syn (K : PySem.W.Frag) : Sp := fun vs H Q _ => ∃ T L n e o sa g, vs = [.ref L.a, .ref sa] ∧ Rep K H T L n e o ∧ SegAt K H T sa g ∧ ∀ H', Rep K H' T L n (takeSyn e g) o → Fr H T H' T → Q .non H'
theorem sc_take_syn : FnScope ["endpoint", "segment"] ["endpoint", "segment"] (defScope s_take_syn) := ⟨rfl, rfl, rfl, by decide +kernel, rfl, by decide +kernel, by decide +kernel⟩
theorem ok_take_syn (D : DefsOk K mg)  : OkF P w K mg base "take_syn" 1 ["endpoint", "segment"] (sp_take_syn K) := by
  have M := D.m
  refine okF (st := s_take_syn) (N := ["endpoint", "segment"]) D.d_take_syn D.g_take_syn sc_take_syn (fun vs H Q E h => ?_) (fun _ _ _ _ _ _ us hl => match us, hl with | [_, _], _ => rfl) (fun cdv A outer s H vs Q E hr h => ?_)
  · obtain ⟨T, L, n, e, o, sa, g, rfl, R, G, hQ⟩ := h
    rfl
  obtain ⟨T, L, n, e, o, sa, g, rfl, R, G, hQ⟩ := h
  refine ⟨_, (pss_cons (ps_fld (pv 0) (pe_fld (pv 1) rfl) rfl)
      (pss_cons (ps_fld (pv 0) pe_int rfl)
      (pss_one (ps_fld (pv 0) (pe_fld (pv 1) rfl) rfl)))), ?_⟩
  obtain ⟨da, ha⟩ := R.ea.obj
  obtain ⟨dg, pl, bl, bs, hg, _⟩ := id G
  refine ⟨_, rfl, _, _, _, _, _, rfl, hg, M.tx.clG, M.tx.nG_sequence, lkG_sequence, _, rfl, _, _, _, _, rfl, ha, M.tx.clE, M.tx.nE_peer_initial, lnE, ?_⟩
  rw [ptE_peer_initial]
  generalize e1 : upd _ _ _ = H1
  obtain ⟨R1, F1⟩ := R.setE (e' := { e with peerInitial := g.seq }) e1
  obtain ⟨da1, ha1⟩ := R1.ea.obj
  refine ⟨_, rfl, _, _, _, _, rfl, ha1, M.tx.clE, M.tx.nE_expected, lnE, ?_⟩
  rw [ptE_expected]
  generalize e2 : upd _ _ _ = H2
  obtain ⟨R2, F2⟩ := R1.setE (e' := { e with peerInitial := g.seq, expected := 1 }) e2
  obtain ⟨da2, ha2⟩ := R2.ea.obj
  obtain ⟨dg2, pl2, bl2, bs2, hg2, _⟩ := G.fr (F1.trans F2)
  refine ⟨_, rfl, _, _, _, _, _, rfl, hg2, M.tx.clG, M.tx.nG_window, lkG_window, _, rfl, _, _, _, _, rfl, ha2, M.tx.clE, M.tx.nE_peer_window, lnE, ?_⟩
  rw [ptE_peer_window]
  generalize e3 : upd _ _ _ = H3
  obtain ⟨R3, F3⟩ := R2.setE (e' := takeSyn e g) e3
  exact hQ H3 R3 ((F1.trans F2).trans F3)
def sp_confirms_syn (K : PySem.W.Frag) : Sp := fun vs H Q _ => ∃ T L n e o sa g, vs = [.ref L.a, .ref sa] ∧ Rep K H T L n e o ∧ SegAt K H T sa g ∧ Q (.bl (confirmsSyn e g)) H
theorem sc_confirms_syn : FnScope ["endpoint", "segment"] ["endpoint", "segment"] (defScope s_confirms_syn) := ⟨rfl, rfl, rfl, by decide +kernel, rfl, by decide +kernel, by decide +kernel⟩
theorem ok_confirms_syn (D : DefsOk K mg) (F_sequence_of : OkF P w K mg base "sequence_of" 1 ["initial", "position"] (sp_sequence_of K)) (M_Segment_has_flag : OkM P w K mg base (He.ga K "Segment") "has_flag" 1 ["self", "flag"] (sp_Segment_has_flag K)) : OkF P w K mg base "confirms_syn" 2 ["endpoint", "segment"] (sp_confirms_syn K) := by
  have M := D.m
  refine okF (st := s_confirms_syn) (N := ["endpoint", "segment"]) D.d_confirms_syn D.g_confirms_syn sc_confirms_syn (fun vs H Q E h => ?_) (fun _ _ _ _ _ _ us hl => match us, hl with | [_, _], _ => rfl) (fun cdv A outer s H vs Q E hr h => ?_)
  · obtain ⟨T, L, n, e, o, sa, g, rfl, R, G, hQ⟩ := h
    rfl
  obtain ⟨T, L, n, e, o, sa, g, rfl, R, G, hQ⟩ := h
  refine ⟨_, (pss_cons (ps_if (pt_not (pt_val (c_meth M_Segment_has_flag (hr.mono (by decide)) (pv 1) (pa_cons (pe_kon M.k_ACKNOWLEDGEMENT) pa_nil)))) (pss_one (ps_ret pe_bl)) pss_nil)
      (pss_one (ps_ret (pe_cmp (pc_eqI (pe_fld (pv 1) rfl) (c_call F_sequence_of (hr.mono (by decide)) rfl (pa_cons (pe_fld (pv 0) rfl) (pa_cons pe_int pa_nil)))))))), ?_⟩
  obtain ⟨da, ha⟩ := R.ea.obj
  obtain ⟨dg, pl, bl, bs, hg, _, _, _, _, _, _, _, nn⟩ := id G
  unfold confirmsSyn at hQ
  refine ⟨_, rfl, sa, dg, _, rfl, hg, rfl, sa, dg, pl, bl, g, 8, rfl, hg, nn, by decide, _, rfl, ?_⟩
  refine ifNB (fun c => ?_) (fun c => ?_)
  · rw [if_pos c] at hQ
    exact hQ
  · rw [if_neg (by rw [c]; simp)] at hQ
    exact ⟨_, rfl, _, _, _, _, _, rfl, hg, M.tx.clG, M.tx.nG_confirmed, lkG_confirmed, _, rfl, _, _, _, _, _, rfl, ha, M.tx.clE, M.tx.nE_initial, lkE_initial, e.initial, 1, rfl, _, _, rfl, rfl, hQ⟩
theorem markBy_end {i k : Int} {b : Int × Int} {p : MPart} : (if posOf i b.1 k ≤ p.position ∧ p.fin ≤ posOf i b.2 k then ({ p with marked := true } : MPart) else p) = markBy i k b p := rfl
theorem set_upto {α : Type} {f : α → α} {l : List α} {j : Nat} {x : α} (h : l[j]? = some x) : ((l.take j).map f ++ l.drop j).set j (f x) = (l.take (j + 1)).map f ++ l.drop (j + 1) := by
  obtain ⟨hl, hx⟩ := List.getElem?_eq_some_iff.mp h
  have e1 : l.drop j = x :: l.drop (j + 1) := by rw [← hx]; exact List.drop_eq_getElem_cons hl
  have len : ((l.take j).map f).length = j := by rw [List.length_map, List.length_take]; omega
  rw [e1, List.set_append_right _ _ (by omega), len, Nat.sub_self, take_more h, List.map_append]
  show _ ++ f x :: l.drop (j + 1) = _
  rw [List.append_assoc]
  rfl
theorem upto_same {α : Type} {f : α → α} {l : List α} {j : Nat} {x : α} (h : l[j]? = some x) (e : f x = x) : (l.take j).map f ++ l.drop j = (l.take (j + 1)).map f ++ l.drop (j + 1) := by
  obtain ⟨hl, hx⟩ := List.getElem?_eq_some_iff.mp h
  have e1 : l.drop j = x :: l.drop (j + 1) := by rw [← hx]; exact List.drop_eq_getElem_cons hl
  rw [e1, take_more h, List.map_append, List.append_assoc]
  show _ = _ ++ ([f x] ++ l.drop (j + 1))
  rw [e]
  rfl
theorem upto_at {α : Type} {f : α → α} {l : List α} {j : Nat} : ((l.take j).map f ++ l.drop j)[j]? = l[j]? := by
  rcases Nat.lt_or_ge j l.length with h | h
  · rw [List.getElem?_append_right (by rw [List.length_map, List.length_take]; omega), List.length_map, List.length_take, Nat.min_eq_left (Nat.le_of_lt h), Nat.sub_self, List.getElem?_drop, Nat.add_zero]
  · rw [List.getElem?_eq_none h, List.getElem?_eq_none (by rw [List.length_append, List.length_map, List.length_take, List.length_drop]; omega)]
def sp_mark_parts (K : PySem.W.Frag) : Sp := fun vs H Q _ => ∃ T L n e o sa g, vs = [.ref L.a, .ref sa] ∧ Rep K H T L n e o ∧ SegAt K H T sa g ∧ ∀ H' L', Rep K H' T L' n (markParts e g) o → Nx H T L H' T L' → Q .non H'
theorem sc_mark_parts : FnScope ["endpoint", "segment", "start", "end", "first", "last", "part"] ["endpoint", "segment"] (defScope s_mark_parts) := ⟨rfl, rfl, rfl, by decide +kernel, rfl, by decide +kernel, by decide +kernel⟩
theorem ok_mark_parts (D : DefsOk K mg) (F_position_of : OkF P w K mg base "position_of" 1 ["initial", "sequence", "reference"] (sp_position_of K)) (M_Part_end : OkM P w K mg base (He.ga K "Part") "end" 1 ["self"] (sp_Part_end K)) : OkF P w K mg base "mark_parts" 2 ["endpoint", "segment"] (sp_mark_parts K) := by
  have M := D.m
  refine okF (st := s_mark_parts) (N := ["endpoint", "segment", "start", "end", "first", "last", "part"]) D.d_mark_parts D.g_mark_parts sc_mark_parts (fun vs H Q E h => ?_) (fun _ _ _ _ _ _ us hl => match us, hl with | [_, _], _ => rfl) (fun cdv A outer s H vs Q E hr h => ?_)
  · obtain ⟨T, L, n, e, o, sa, g, rfl, R, G, hQ⟩ := h
    rfl
  obtain ⟨T, L, n, e, o, sa, g, rfl, R, G, hQ⟩ := h
  refine ⟨_, (pss_one (ps_for PassesOwn.never rfl (pi_list (pe_fld (pv 1) rfl)) (pg_tup rfl (pgs_cons (pg_name (i := 2) sc_mark_parts.nd rfl (Or.inl rfl)) (pgs_cons (pg_name (i := 3) sc_mark_parts.nd rfl (Or.inl rfl)) pgs_nil))) (pss_cons (ps_set (i := 4) sc_mark_parts.nd rfl (Or.inl rfl) (c_call F_position_of (hr.mono (by decide)) rfl (pa_cons (pe_fld (pv 0) rfl) (pa_cons (pv 2) (pa_cons (pe_fld (pv 0) rfl) pa_nil)))))
      (pss_cons (ps_set (i := 5) sc_mark_parts.nd rfl (Or.inl rfl) (c_call F_position_of (hr.mono (by decide)) rfl (pa_cons (pe_fld (pv 0) rfl) (pa_cons (pv 3) (pa_cons (pe_fld (pv 0) rfl) pa_nil)))))
      (pss_one (ps_for PassesOwn.never rfl (pi_list (pe_fld (pv 0) rfl)) (pg_name (i := 6) sc_mark_parts.nd rfl (Or.inl rfl)) (pss_one (ps_if (PW.pt (pw_and (pt_cmp (pc_le (pv 4) (pe_fld (pv 6) rfl))) (pw_and1 (pt_cmp (pc_le (c_meth0 M_Part_end (hr.mono (by decide)) (pv 6)) (pv 5)))))) (pss_one (ps_fld (pv 6) pe_bl rfl)) pss_nil)))))))), ?_⟩
  obtain ⟨dg, pl, bl, bs, hg, hgp, hgb, gbs, hbs, tg, tpl, tbl, nn⟩ := id G
  let ex : Nat → MEnd := fun i => { e with parts := (g.blocks.take i).foldl (fun ps b => ps.map (markBy e.initial e.acknowledged b)) e.parts }
  refine ⟨_, rfl, _, _, _, _, _, rfl, hg, M.tx.clG, M.tx.nG_blocks, lkG_blocks, _, rfl, ⟨_, SqL.of hgb⟩, for_list (K := K) (xs := bs.map fun q => V.ref q.1) (fun i σ H' => (∃ v2 v3 v4 v5 v6, σ = [some (.ref L.a), some (.ref sa), v2, v3, v4, v5, v6]) ∧ ∃ ps', Rep K H' T { L with y := { L.y with ps := ps' } } n (ex i) o ∧ Fr H T H' T)
    ⟨⟨none, none, none, none, none, rfl⟩, L.y.ps, R, Fr.refl H T⟩ (fun i σ H' _ ⟨_, _, _, F⟩ => SqL.of ((F _ _ hgb).2.2 (.inl tbl))) ?_ ?_⟩
  · rintro i x σ H' hx ⟨⟨v2, v3, v4, v5, v6, rfl⟩, ps', R1, F1⟩
    rw [List.getElem?_map] at hx
    obtain ⟨q, hq, rfl⟩ := Option.map_eq_some_iff.mp hx
    obtain ⟨tq, ttq⟩ := hbs q (List.mem_of_getElem? hq)
    have tq1 := (F1 _ _ tq).2.2 (.inl ttq)
    have gq : g.blocks[i]? = some q.2 := by rw [gbs, List.getElem?_map, hq]; rfl
    obtain ⟨da1, ha1⟩ := R1.ea.obj
    refine ⟨q.1, _, rfl, SqT.of tq1, rfl, _, _, rfl, _, _, rfl, rfl, ?_⟩
    refine ⟨_, rfl, _, _, _, _, _, rfl, ha1, M.tx.clE, M.tx.nE_initial, lkE_initial, _, rfl, _, rfl, _, _, _, _, _, rfl, ha1, M.tx.clE, M.tx.nE_acknowledged, lkE_acknowledged, e.initial, q.2.1, e.acknowledged, rfl, ?_⟩
    refine ⟨_, rfl, _, _, _, _, _, rfl, ha1, M.tx.clE, M.tx.nE_initial, lkE_initial, _, rfl, _, rfl, _, _, _, _, _, rfl, ha1, M.tx.clE, M.tx.nE_acknowledged, lkE_acknowledged, e.initial, q.2.2, e.acknowledged, rfl, ?_⟩
    have C1 := R1.ea.c
    let f : Addr × MPart → Addr × MPart := fun w => (w.1, markBy e.initial e.acknowledged q.2 w.2)
    let up : Nat → List (Addr × MPart) := fun j => (ps'.take j).map f ++ ps'.drop j
    have upf : ∀ j, (up j).map (·.1) = ps'.map (·.1) := fun j => by
      show ((ps'.take j).map f ++ ps'.drop j).map (·.1) = _
      rw [List.map_append, List.map_map]
      have e9 : ((fun w : Addr × MPart => w.1) ∘ f) = fun w => w.1 := rfl
      rw [e9, ← List.map_append, List.take_append_drop]
    have upr : ∀ j, ((up j).map fun w => V.ref w.1) = ps'.map fun w => V.ref w.1 := fun j => by
      have := congrArg (List.map V.ref) (upf j)
      rw [List.map_map, List.map_map] at this
      exact this
    refine ⟨_, rfl, _, _, _, _, _, rfl, ha1, M.tx.clE, M.tx.nE_parts, lkE_parts, _, rfl, ⟨_, SqL.of C1.pts⟩, for_list (K := K) (xs := ps'.map fun w => V.ref w.1) (fun j σ H2 => (∃ v6, σ = [some (.ref L.a), some (.ref sa), some (.int q.2.1), some (.int q.2.2), some (.int (posOf e.initial q.2.1 e.acknowledged)), some (.int (posOf e.initial q.2.2 e.acknowledged)), v6]) ∧
        Rep K H2 T { L with y := { L.y with ps := up j } } n { e with parts := (up j).map (·.2) } o ∧ Fr H T H2 T)
      ⟨⟨v6, rfl⟩, ?_, F1⟩ (fun j σ H2 _ ⟨_, R2, _⟩ => SqL.of (by have := R2.ea.c.pts; rw [upr] at this; exact this)) ?_ ?_⟩
    · have e0 : up 0 = ps' := rfl
      rw [e0, ← show (ex i).parts = ps'.map (·.2) from C1.ps]
      exact R1
    · rintro j y σ H2 hy ⟨⟨v6, rfl⟩, R2, F2⟩
      rw [List.getElem?_map] at hy
      obtain ⟨w, hw, rfl⟩ := Option.map_eq_some_iff.mp hy
      have uw : (up j)[j]? = some w := upto_at.trans hw
      have C2 := R2.ea.c
      obtain ⟨dp, pl2, hp1, hp2, hp3⟩ := (C2.part _ (List.mem_of_getElem? uw)).obj
      have nnw := (C2.part _ (List.mem_of_getElem? uw)).nn
      refine ⟨_, rfl, _, rfl, _, _, _, _, _, rfl, hp1, M.tx.clP, M.tx.nP_position, lkP_position, _, _, rfl, rfl, _, rfl, ?_⟩
      refine ifD (c := posOf e.initial q.2.1 e.acknowledged ≤ w.2.position) (fun c1 => ?_) (fun c1 => ?_)
      · refine ⟨_, rfl, w.1, dp, _, rfl, hp1, rfl, w.1, dp, pl2, w.2, rfl, hp1, hp2, _, rfl, _, _, rfl, rfl, _, rfl, ?_⟩
        refine ifD (c := w.2.fin ≤ posOf e.initial q.2.2 e.acknowledged) (fun c2 => ?_) (fun c2 => ?_)
        · refine ⟨_, rfl, _, _, _, _, rfl, hp1, M.tx.clP, M.tx.nP_marked, lnP, ?_⟩
          rw [ptP_marked]
          generalize e3 : upd _ _ _ = H3
          obtain ⟨R3, F3⟩ := R2.mutPart (k := j) (q' := { w.2 with marked := true }) uw hp2 hp3 nnw e3
          have ef : f w = (w.1, { w.2 with marked := true }) := by
            show (w.1, markBy _ _ _ _) = _
            unfold markBy
            rw [if_pos ⟨c1, c2⟩]
          have eu : (up j).set j (w.1, { w.2 with marked := true }) = up (j + 1) := by
            rw [← ef]
            exact set_upto hw
          refine ⟨⟨_, rfl⟩, ?_, F2.trans F3⟩
          have e4 : ((up j).map (·.2)).set j { w.2 with marked := true } = (up (j + 1)).map (·.2) := by
            rw [← eu, List.map_set]
          rw [← eu, ← eu] at *
          rw [List.map_set]
          exact R3
        · have ef : f w = w := by
            show (w.1, markBy _ _ _ _) = _
            unfold markBy
            rw [if_neg (fun z => c2 z.2)]
          have eu : up j = up (j + 1) := upto_same hw ef
          rw [eu] at R2
          exact ⟨⟨_, rfl⟩, R2, F2⟩
      · have ef : f w = w := by
          show (w.1, markBy _ _ _ _) = _
          unfold markBy
          rw [if_neg (fun z => c1 z.1)]
        have eu : up j = up (j + 1) := upto_same hw ef
        rw [eu] at R2
        exact iteF ⟨⟨_, rfl⟩, R2, F2⟩
    · rintro σ H2 ⟨⟨v6, rfl⟩, R2, F2⟩
      refine ⟨⟨_, _, _, _, _, rfl⟩, up ps'.length, ?_, F2⟩
      have e1 : (up (ps'.map fun w => V.ref w.1).length) = up ps'.length := by rw [List.length_map]
      rw [e1] at R2
      have e2 : (up ps'.length).map (·.2) = (ex (i + 1)).parts := by
        show ((ps'.take ps'.length).map f ++ ps'.drop ps'.length).map (·.2) = ((g.blocks.take (i + 1)).foldl (fun ps b => ps.map (markBy e.initial e.acknowledged b)) e.parts)
        rw [take_more gq, List.foldl_append, List.take_length, List.drop_length, List.append_nil, List.map_map]
        show _ = ((ex i).parts).map (markBy e.initial e.acknowledged q.2)
        rw [show (ex i).parts = ps'.map (·.2) from C1.ps, List.map_map]
        rfl
      rw [e2] at R2
      exact R2
  · rintro σ H' ⟨_, ps', R1, F1⟩
    have e1 : ex (bs.map fun q => V.ref q.1).length = markParts e g := by
      show ({ e with parts := (g.blocks.take (bs.map fun q => V.ref q.1).length).foldl _ e.parts } : MEnd) = _
      have : (bs.map fun q => V.ref q.1).length = g.blocks.length := by rw [gbs, List.length_map, List.length_map]
      rw [this, List.take_length]
      rfl
    rw [e1] at R1
    exact hQ H' _ R1 ⟨rfl, rfl, rfl, rfl, F1⟩
end
end Ws
set_option Elab.async false
set_option linter.all false
set_option maxRecDepth 100000
set_option maxHeartbeats 4000000
namespace Ws
open PySem PySem.Spec PyProof.Rows L2 Wt

section
variable {P : Program} {w : World} {K : PySem.W.Frag} {mg : Str → Option Value} {base : Heap}
def sp_measure (K : PySem.W.Frag) : Sp := fun vs H Q _ => ∃ T L n e o a dx pl p, vs = [.ref L.lk, .ref L.a, .ref a] ∧ Rep K H T L n e o ∧ H a = some (.ins (cP K) dx (fP p pl)) ∧ ∀ H', Rep K H' T L n (measure n e p) o → Fr H T H' T → Q .non H'
theorem sc_measure : FnScope ["link", "endpoint", "part", "time", "mean"] ["link", "endpoint", "part"] (defScope s_measure) := ⟨rfl, rfl, rfl, by decide +kernel, rfl, by decide +kernel, by decide +kernel⟩
theorem ok_measure (D : DefsOk K mg)  : OkF P w K mg base "measure" 1 ["link", "endpoint", "part"] (sp_measure K) := by
  have M := D.m
  refine okF (st := s_measure) (N := ["link", "endpoint", "part", "time", "mean"]) D.d_measure D.g_measure sc_measure (fun vs H Q E h => ?_) (fun _ _ _ _ _ _ us hl => match us, hl with | [_, _, _], _ => rfl) (fun cdv A outer s H vs Q E hr h => ?_)
  · obtain ⟨T, L, n, e, o, a, dx, pl, p, rfl, R, hp, hQ⟩ := h
    rfl
  obtain ⟨T, L, n, e, o, a, dx, pl, p, rfl, R, hp, hQ⟩ := h
  refine ⟨_, (pss_cons (ps_set (i := 3) sc_measure.nd rfl (Or.inl rfl) (pe_op op_sub (pe_fld (pv 0) rfl) (pe_fld (pv 2) rfl)))
      (Evl.pss_cut (ps_if (pt_not (pt_val (pe_fld (pv 1) rfl))) (pss_cons (ps_fld (pv 1) pe_bl rfl)
      (pss_cons (ps_fld (pv 1) (pe_op op_mul pe_int (pv 3)) rfl)
      (pss_one (ps_fld (pv 1) (pe_op op_mul pe_int (pv 3)) rfl)))) (pss_cons (ps_set (i := 4) sc_measure.nd rfl (Or.inl rfl) (pe_op op_fdiv (pe_fld (pv 1) rfl) pe_int))
      (pss_cons (ps_fldaug (pv 1) (pe_op op_sub (pv 3) (pv 4)) in_add)
      (pss_one (ps_fldaug (pv 1) (pe_op op_sub (pe_callB call_abs (by rfl) M.b_abs bt_abs (pa_cons (pe_op op_sub (pv 3) (pv 4)) pa_nil)) (pe_op op_fdiv (pe_fld (pv 1) rfl) pe_int)) in_add)))))
      (pss_one (ps_fld (pv 1) (pe_callB (call_min2 rfl) (by rfl) M.b_min bt_min (pa_cons (pe_kon M.k_MOST_TIMEOUT) (pa_cons (pe_callB (call_max2 rfl) (by rfl) M.b_max bt_max (pa_cons (pe_kon M.k_LEAST_TIMEOUT) (pa_cons (pe_op op_add (pe_op op_fdiv (pe_fld (pv 1) rfl) pe_int) (pe_fld (pv 1) rfl)) pa_nil))) pa_nil))) rfl)))), ?_⟩
  obtain ⟨dl, hl⟩ := R.lk
  obtain ⟨da, ha⟩ := R.ea.obj
  refine ⟨_, rfl, _, _, _, _, _, rfl, hl, M.tx.clL, M.tx.nL_now, lkL_now, _, rfl, _, _, _, _, _, rfl, hp, M.tx.clP, M.tx.nP_sent_at, lkP_sent_at, _, _, rfl, rfl, ?_⟩
  refine ⟨fun σ H' => ∃ e1, ∃ v4, σ = [some (.ref L.lk), some (.ref L.a), some (.ref a), some (.int (n.now - p.sentAt)), v4] ∧ Rep K H' T L n e1 o ∧ Fr H T H' T ∧ ({ e1 with timeout := pmin 60000 (pmax 20 (e1.smoothed / 8 + e1.variation)) } : MEnd) = measure n e p, ?_, ?_⟩
  · refine ⟨_, rfl, _, _, _, _, _, rfl, ha, M.tx.clE, M.tx.nE_measured, lkE_measured, _, rfl, ?_⟩
    refine ifNB (fun c => ?_) (fun c => ?_)
    · refine ⟨_, rfl, _, _, _, _, rfl, ha, M.tx.clE, M.tx.nE_measured, lnE, ?_⟩
      rw [ptE_measured]
      generalize e1 : upd _ _ _ = H1
      obtain ⟨R1, F1⟩ := R.setE (e' := { e with measured := true }) e1
      obtain ⟨da1, ha1⟩ := R1.ea.obj
      refine ⟨_, rfl, 8, _, rfl, rfl, .inl ⟨by decide, by decide⟩, _, rfl, _, _, _, _, rfl, ha1, M.tx.clE, M.tx.nE_smoothed, lnE, ?_⟩
      rw [ptE_smoothed]
      generalize e2 : upd _ _ _ = H2
      obtain ⟨R2, F2⟩ := R1.setE (e' := { e with measured := true, smoothed := 8 * (n.now - p.sentAt) }) e2
      obtain ⟨da2, ha2⟩ := R2.ea.obj
      refine ⟨_, rfl, 2, _, rfl, rfl, .inl ⟨by decide, by decide⟩, _, rfl, _, _, _, _, rfl, ha2, M.tx.clE, M.tx.nE_variation, lnE, ?_⟩
      rw [ptE_variation]
      generalize e3 : upd _ _ _ = H3
      obtain ⟨R3, F3⟩ := R2.setE (e' := { e with measured := true, smoothed := 8 * (n.now - p.sentAt), variation := 2 * (n.now - p.sentAt) }) e3
      refine ⟨_, none, rfl, R3, (F1.trans F2).trans F3, ?_⟩
      unfold measure
      rw [if_pos c]
    · refine ⟨_, rfl, _, _, _, _, _, rfl, ha, M.tx.clE, M.tx.nE_smoothed, lkE_smoothed, _, 8, rfl, rfl, ⟨by decide, by decide⟩, ?_⟩
      refine ⟨_, rfl, _, _, _, _, _, rfl, ha, M.tx.clE, M.tx.nE_smoothed, lkE_smoothed, _, rfl, _, rfl, _, _, rfl, rfl, _, _, rfl, rfl, da, _, ha, lnE, ?_⟩
      rw [ptE_smoothed]
      generalize e1 : upd _ _ _ = H1
      obtain ⟨R1, F1⟩ := R.setE (e' := { e with smoothed := e.smoothed + (n.now - p.sentAt - e.smoothed / 8) }) e1
      obtain ⟨da1, ha1⟩ := R1.ea.obj
      refine ⟨_, rfl, _, _, _, _, _, rfl, ha1, M.tx.clE, M.tx.nE_variation, lkE_variation, _, rfl, _, rfl, _, _, rfl, rfl, _, rfl, _, rfl, _, _, _, _, _, rfl, ha1, M.tx.clE, M.tx.nE_variation, lkE_variation, _, 4, rfl, rfl, ⟨by decide, by decide⟩, _, _, rfl, rfl, _, _, rfl, rfl, da1, _, ha1, lnE, ?_⟩
      rw [ptE_variation]
      generalize e2 : upd _ _ _ = H2
      obtain ⟨R2, F2⟩ := R1.setE (e' := { e with smoothed := e.smoothed + (n.now - p.sentAt - e.smoothed / 8), variation := e.variation + ((if n.now - p.sentAt - e.smoothed / 8 < 0 then -(n.now - p.sentAt - e.smoothed / 8) else n.now - p.sentAt - e.smoothed / 8) - e.variation / 4) }) e2
      refine ⟨_, _, rfl, R2, F1.trans F2, ?_⟩
      unfold measure
      rw [if_neg (show ¬ e.measured = false by rw [c]; decide)]
  · rintro σ H1 ⟨e1, v4, rfl, R1, F1, he⟩
    obtain ⟨da1, ha1⟩ := R1.ea.obj
    refine ⟨_, rfl, _, _, _, _, _, rfl, ha1, M.tx.clE, M.tx.nE_smoothed, lkE_smoothed, _, 8, rfl, rfl, ⟨by decide, by decide⟩, _, rfl, _, _, _, _, _, rfl, ha1, M.tx.clE, M.tx.nE_variation, lkE_variation, _, _, rfl, rfl, _, _, rfl, _, _, rfl, _, rfl, _, _, _, _, rfl, ha1, M.tx.clE, M.tx.nE_timeout, lnE, ?_⟩
    rw [ptE_timeout]
    generalize e2 : upd _ _ _ = H2
    obtain ⟨R2, F2⟩ := R1.setE (e' := { e1 with timeout := pmin 60000 (pmax 20 (e1.smoothed / 8 + e1.variation)) }) e2
    rw [he] at R2
    exact hQ H2 R2 (F1.trans F2)
def sp_grow (K : PySem.W.Frag) : Sp := fun vs H Q _ => ∃ T L n e o many e', vs = [.ref L.lk, .ref L.a, .int many] ∧ Rep K H T L n e o ∧ grow n e many = some e' ∧ ∀ H', Rep K H' T L n e' o → Fr H T H' T → Q .non H'
theorem sc_grow : FnScope ["link", "endpoint", "many", "size"] ["link", "endpoint", "many"] (defScope s_grow) := ⟨rfl, rfl, rfl, by decide +kernel, rfl, by decide +kernel, by decide +kernel⟩
theorem ok_grow (D : DefsOk K mg)  : OkF P w K mg base "grow" 1 ["link", "endpoint", "many"] (sp_grow K) := by
  have M := D.m
  refine okF (st := s_grow) (N := ["link", "endpoint", "many", "size"]) D.d_grow D.g_grow sc_grow (fun vs H Q E h => ?_) (fun _ _ _ _ _ _ us hl => match us, hl with | [_, _, _], _ => rfl) (fun cdv A outer s H vs Q E hr h => ?_)
  · obtain ⟨T, L, n, e, o, many, e', rfl, R, ht, hQ⟩ := h
    rfl
  obtain ⟨T, L, n, e, o, many, e', rfl, R, ht, hQ⟩ := h
  refine ⟨_, (pss_cons (ps_set (i := 3) sc_grow.nd rfl (Or.inl rfl) (pe_fld (pe_fld (pv 0) rfl) rfl))
      (Evl.pss_cut (ps_if (pt_cmp (pc_lt (pe_fld (pv 1) rfl) (pe_fld (pv 1) rfl))) (pss_one (ps_fldaug (pv 1) (pe_callB (call_min2 rfl) (by rfl) M.b_min bt_min (pa_cons (pv 2) (pa_cons (pv 3) pa_nil))) in_add)) (pss_one (ps_fldaug (pv 1) (pe_callB (call_max2 rfl) (by rfl) M.b_max bt_max (pa_cons pe_int (pa_cons (pe_op op_fdiv (pe_op op_mul (pv 3) (pv 3)) (pe_fld (pv 1) rfl)) pa_nil))) in_add)))
      (pss_one (ps_fld (pv 1) (pe_callB (call_min2 rfl) (by rfl) M.b_min bt_min (pa_cons (pe_fld (pv 1) rfl) (pa_cons (pe_kon M.k_MOST_CONGESTION) pa_nil))) rfl)))), ?_⟩
  unfold grow at ht
  split at ht
  case isFalse => cases ht
  rename_i hc
  cases ht
  obtain ⟨dl, hl⟩ := R.lk
  obtain ⟨ds, hs⟩ := R.st
  obtain ⟨da, ha⟩ := R.ea.obj
  refine ⟨_, rfl, _, _, _, _, _, rfl, hl, M.tx.clL, M.tx.nL_settings, lkL_settings, _, _, _, _, _, rfl, hs, M.tx.clS, M.tx.nS_segment_size, lkS_segment_size, ?_⟩
  refine ⟨fun σ H' => σ = [some (.ref L.lk), some (.ref L.a), some (.int many), some (.int n.size)] ∧ Rep K H' T L n { e with congestion := if e.congestion < e.threshold then e.congestion + pmin many n.size else e.congestion + pmax 1 (n.size * n.size / e.congestion) } o ∧ Fr H T H' T, ?_, ?_⟩
  · refine ⟨_, rfl, _, _, _, _, _, rfl, ha, M.tx.clE, M.tx.nE_congestion, lkE_congestion, _, rfl, _, _, _, _, _, rfl, ha, M.tx.clE, M.tx.nE_threshold, lkE_threshold, _, _, rfl, rfl, _, rfl, ?_⟩
    refine ifD (c := e.congestion < e.threshold) (fun c => ?_) (fun c => ?_)
    · refine ⟨_, rfl, _, _, _, _, _, rfl, ha, M.tx.clE, M.tx.nE_congestion, lkE_congestion, _, rfl, _, rfl, _, _, rfl, _, _, rfl, rfl, da, _, ha, lnE, ?_⟩
      rw [ptE_congestion, if_pos c]
      generalize e1 : upd _ _ _ = H1
      obtain ⟨R1, F1⟩ := R.setE (e' := { e with congestion := e.congestion + pmin many n.size }) e1
      exact ⟨rfl, R1, F1⟩
    · refine ⟨_, rfl, _, _, _, _, _, rfl, ha, M.tx.clE, M.tx.nE_congestion, lkE_congestion, _, rfl, _, rfl, _, _, rfl, rfl, .inl ⟨?_, ?_⟩, _, rfl, _, _, _, _, _, rfl, ha, M.tx.clE, M.tx.nE_congestion, lkE_congestion, _, _, rfl, rfl, ⟨?_, ?_⟩, _, _, rfl, _, _, rfl, rfl, da, _, ha, lnE, ?_⟩
      · show -(2 ^ 64) < n.size
        omega
      · show n.size < 2 ^ 64
        omega
      · show 0 < e.congestion
        omega
      · show e.congestion < 1073741824
        omega
      rw [ptE_congestion, if_neg c]
      generalize e1 : upd _ _ _ = H1
      obtain ⟨R1, F1⟩ := R.setE (e' := { e with congestion := e.congestion + pmax 1 (n.size * n.size / e.congestion) }) e1
      exact ⟨rfl, R1, F1⟩
  · rintro σ H1 ⟨rfl, R1, F1⟩
    obtain ⟨da1, ha1⟩ := R1.ea.obj
    refine ⟨_, rfl, _, _, _, _, _, rfl, ha1, M.tx.clE, M.tx.nE_congestion, lkE_congestion, _, _, rfl, _, rfl, _, _, _, _, rfl, ha1, M.tx.clE, M.tx.nE_congestion, lnE, ?_⟩
    rw [ptE_congestion]
    generalize e2 : upd _ _ _ = H2
    obtain ⟨R2, F2⟩ := R1.setE (e' := { e with congestion := pmin (if e.congestion < e.threshold then e.congestion + pmin many n.size else e.congestion + pmax 1 (n.size * n.size / e.congestion)) 10000 }) e2
    exact hQ H2 R2 (F1.trans F2)
/-! ### the dict's words -/
abbrev kv2 (q : Int × Int) : Key × V := (Sum.inl q.1, V.int q.2)
theorem inl_iff {a b : Int} : ((Sum.inl a : Key) = Sum.inl b) ↔ a = b := ⟨fun h => Sum.inl.inj h, fun h => by rw [h]⟩
theorem valV_map (l : List (Int × Int)) (k : Int) : valV (l.map kv2) (Sum.inl k) = (l.find? fun q => decide (q.1 = k)).map fun q => V.int q.2 := by
  unfold valV
  rw [List.find?_map]
  have e : ((fun kv : Key × V => decide (kv.1 = Sum.inl k)) ∘ kv2) = fun q : Int × Int => decide (q.1 = k) := by
    funext q
    exact decide_eq_decide.mpr inl_iff
  rw [e, Option.map_map]
  rfl
theorem dropK_map (l : List (Int × Int)) (k : Int) : dropK (l.map kv2) (Sum.inl k) = (l.filter fun q => decide (q.1 ≠ k)).map kv2 := by
  unfold dropK
  rw [List.filter_map]
  have e : ((fun kv : Key × V => decide (kv.1 ≠ Sum.inl k)) ∘ kv2) = fun q : Int × Int => decide (q.1 ≠ k) := by
    funext q
    exact decide_eq_decide.mpr (not_congr inl_iff)
  rw [e]
theorem putK_map (l : List (Int × Int)) (k v : Int) : putK (l.map kv2) (Sum.inl k) (V.int v) = (putD l k v).map kv2 := by
  unfold putK putD
  rw [List.any_map]
  have e : ((fun kv : Key × V => decide (kv.1 = Sum.inl k)) ∘ kv2) = fun q : Int × Int => decide (q.1 = k) := by
    funext q
    exact decide_eq_decide.mpr inl_iff
  rw [e]
  split
  · rw [List.map_map, List.map_map]
    refine List.map_congr_left fun q _ => ?_
    show (if (Sum.inl q.1 : Key) = Sum.inl k then (Sum.inl q.1, V.int v) else (Sum.inl q.1, V.int q.2)) = kv2 (if q.1 = k then (q.1, v) else q)
    by_cases h : q.1 = k
    · rw [if_pos (inl_iff.mpr h), if_pos h]
    · rw [if_neg (fun z => h (inl_iff.mp z)), if_neg h]
  · rw [List.map_append]
    rfl
theorem drop_less {l : List (Int × Int)} {k : Int} {q : Int × Int} (h : l.find? (fun q => decide (q.1 = k)) = some q) : (l.filter fun q => decide (q.1 ≠ k)).length < l.length := by
  have m := List.mem_of_find?_eq_some h
  have p := List.find?_some h
  refine Nat.lt_of_le_of_ne (List.length_filter_le _ _) fun z => ?_
  have := List.length_filter_eq_length_iff.mp z q m
  have p1 : q.1 = k := of_decide_eq_true p
  exact (of_decide_eq_true this) p1
def sp_take_early (K : PySem.W.Frag) : Sp := fun vs H Q _ => ∃ T L n e o, vs = [.ref L.a] ∧ Rep K H T L n e o ∧ e.early.length ≤ 20000 ∧ e.readable.length ≤ 10000 ∧ ∀ H', Rep K H' T L n (takeEarly e) o → Fr H T H' T → Q .non H'
theorem sc_take_early : FnScope ["endpoint"] ["endpoint"] (defScope s_take_early) := ⟨rfl, rfl, rfl, by decide +kernel, rfl, by decide +kernel, by decide +kernel⟩
theorem ok_take_early (D : DefsOk K mg)  : OkF P w K mg base "take_early" 1 ["endpoint"] (sp_take_early K) := by
  have M := D.m
  refine okF (st := s_take_early) (N := ["endpoint"]) D.d_take_early D.g_take_early sc_take_early (fun vs H Q E h => ?_) (fun _ _ _ _ _ _ us hl => match us, hl with | [_], _ => rfl) (fun cdv A outer s H vs Q E hr h => ?_)
  · obtain ⟨T, L, n, e, o, rfl, R, hz1, hz2, hQ⟩ := h
    rfl
  obtain ⟨T, L, n, e, o, rfl, R, hz1, hz2, hQ⟩ := h
  refine ⟨_, (pss_cons (ps_while PassesOwn.never (pt_cmp (pc_din (hu_of hr) (pe_fld (pv 0) rfl) (pe_fld (pv 0) rfl)) rfl) (pss_cons (ps_expr (pe_bm PySem.F.plainAttrs_list PySem.F.slot_list_append PySem.F.type_list_append mt_append (pe_fld (pv 0) rfl) (pa_cons (pe_dpop1 (pe_fld (pv 0) rfl) (pe_fld (pv 0) rfl) ⟨rfl, rfl, rfl, rfl⟩) pa_nil)))
      (pss_one (ps_fldaug (pv 0) pe_int in_add))))
      (pss_one (ps_if (pt_cmp (pc_eqI (pe_fld (pv 0) rfl) (pe_fld (pv 0) rfl))) (pss_cons (ps_fld (pv 0) pe_bl rfl)
      (pss_one (ps_fldaug (pv 0) pe_int in_add))) pss_nil))), ?_⟩
  have h16 : sizeLine = 16777216 := sizeLine_eq
  refine ⟨fun k σ H' => σ = [some (.ref L.a)] ∧ ∃ e', Rep K H' T L n e' o ∧ Fr H T H' T ∧ takeLoop k e' = takeLoop e.early.length e ∧ e'.early.length ≤ k ∧ e'.readable.length + k ≤ 30000, ⟨e.early.length, rfl, e, R, Fr.refl H T, rfl, Nat.le_refl _, by omega⟩, ?_⟩
  rintro k σ H1 ⟨rfl, e1, R1, F1, ht, hk, hr1⟩
  obtain ⟨da1, ha1⟩ := R1.ea.obj
  have C1 := R1.ea.c
  refine ⟨_, rfl, _, _, _, _, _, rfl, ha1, M.tx.clE, M.tx.nE_expected, lkE_expected, _, rfl, _, _, _, _, _, rfl, ha1, M.tx.clE, M.tx.nE_early, lkE_early, _, _, rfl, DGet.k (k := Sum.inl e1.expected) C1.ea, _, rfl, ?_⟩
  have ev : valV (e1.early.map fun q => ((Sum.inl q.1 : Key), V.int q.2)) (Sum.inl e1.expected) = _ := valV_map e1.early e1.expected
  rw [ev]
  cases hf : e1.early.find? fun q => decide (q.1 = e1.expected) with
  | none =>
    refine iteF ?_
    have et : takeLoop k e1 = e1 := by
      cases k with
      | zero => rfl
      | succ k =>
        unfold takeLoop
        rw [hf]
    rw [et] at ht
    refine ⟨_, rfl, _, _, _, _, _, rfl, ha1, M.tx.clE, M.tx.nE_expected, lkE_expected, _, rfl, _, _, _, _, _, rfl, ha1, M.tx.clE, M.tx.nE_fin_position, lkE_fin_position, _, _, rfl, rfl, _, rfl, ?_⟩
    have eq : takeEarly e = takeFin e1 := by unfold takeEarly; rw [ht]
    rw [eq] at hQ
    unfold takeFin at hQ
    refine ifD (c := e1.expected = e1.finPos) (fun c => ?_) (fun c => ?_)
    · rw [if_pos c] at hQ
      refine ⟨_, rfl, _, _, _, _, rfl, ha1, M.tx.clE, M.tx.nE_fin_received, lnE, ?_⟩
      rw [ptE_fin_received]
      generalize e2 : upd _ _ _ = H2
      obtain ⟨R2, F2⟩ := R1.setE (e' := { e1 with finReceived := true }) e2
      obtain ⟨da2, ha2⟩ := R2.ea.obj
      refine ⟨_, rfl, _, _, _, _, _, rfl, ha2, M.tx.clE, M.tx.nE_expected, lkE_expected, _, _, rfl, rfl, da2, _, ha2, lnE, ?_⟩
      rw [ptE_expected]
      generalize e3 : upd _ _ _ = H3
      obtain ⟨R3, F3⟩ := R2.setE (e' := { e1 with finReceived := true, expected := e1.expected + 1 }) e3
      exact hQ H3 R3 ((F1.trans F2).trans F3)
    · rw [if_neg c] at hQ
      exact hQ H1 R1 F1
  | some q =>
    refine iteT ?_
    have hm := List.mem_of_find?_eq_some hf
    cases k with
    | zero =>
      have : e1.early = [] := List.length_eq_zero_iff.mp (Nat.le_zero.mp hk)
      rw [this] at hm
      cases hm
    | succ k =>
      have ht2 : takeLoop (k + 1) e1 = takeLoop k { e1 with readable := e1.readable ++ [q.2], early := e1.early.filter fun x => decide (x.1 ≠ e1.expected), expected := e1.expected + 1 } := by
        show (match e1.early.find? fun q => decide (q.1 = e1.expected) with
          | none => e1
          | some q => takeLoop k { e1 with readable := e1.readable ++ [q.2], early := e1.early.filter fun x => decide (x.1 ≠ e1.expected), expected := e1.expected + 1 }) = _
        rw [hf]
      rw [ht2] at ht
      refine ⟨_, fun σ' H' w => ⟨k, Nat.lt_succ_self k, w⟩, ?_⟩
      refine ⟨_, rfl, _, _, _, _, _, rfl, ha1, M.tx.clE, M.tx.nE_readable, lkE_readable, .inl ⟨rfl, _, SqL.of C1.rd⟩, _, rfl, _, _, _, _, _, rfl, ha1, M.tx.clE, M.tx.nE_early, lkE_early, _, rfl, .inl ⟨_, .inl C1.ea⟩, _, rfl, _, _, _, _, _, rfl, ha1, M.tx.clE, M.tx.nE_expected, lkE_expected, _, Sum.inl e1.expected, V.int q.2, C1.ea, rfl, ?_, ?_⟩
      · rw [ev, hf]
        rfl
      have ed : dropK (e1.early.map fun q => ((Sum.inl q.1 : Key), V.int q.2)) (Sum.inl e1.expected) = _ := dropK_map e1.early e1.expected
      rw [ed]
      generalize e2 : upd _ _ _ = H2
      obtain ⟨R2, F2⟩ := R1.mutEa (kvs := e1.early.filter fun q => decide (q.1 ≠ e1.expected)) e2
      have C2 := R2.ea.c
      refine ⟨_, _, _, rfl, rfl, C2.rd, ?_, ?_⟩
      · show (e1.readable.map V.int).length < sizeLine
        rw [List.length_map]
        omega
      have ea : (e1.readable.map V.int) ++ [V.int q.2] = (e1.readable ++ [q.2]).map V.int := by rw [List.map_append]; rfl
      have ea' : ({ e1 with early := e1.early.filter fun q => decide (q.1 ≠ e1.expected) } : MEnd).readable.map V.int ++ [V.int q.2] = (e1.readable ++ [q.2]).map V.int := ea
      rw [ea']
      generalize e3 : upd _ _ _ = H3
      obtain ⟨R3, F3⟩ := R2.mutRd (us := e1.readable ++ [q.2]) e3
      obtain ⟨da3, ha3⟩ := R3.ea.obj
      refine ⟨_, rfl, _, _, _, _, _, rfl, ha3, M.tx.clE, M.tx.nE_expected, lkE_expected, _, _, rfl, rfl, da3, _, ha3, lnE, ?_⟩
      rw [ptE_expected]
      generalize e4 : upd _ _ _ = H4
      obtain ⟨R4, F4⟩ := R3.setE (e' := { e1 with readable := e1.readable ++ [q.2], early := e1.early.filter fun x => decide (x.1 ≠ e1.expected), expected := e1.expected + 1 }) e4
      refine ⟨rfl, _, R4, ((F1.trans F2).trans F3).trans F4, ht, ?_, ?_⟩
      · have := drop_less hf
        show (e1.early.filter fun x => decide (x.1 ≠ e1.expected)).length ≤ k
        omega
      · show (e1.readable ++ [q.2]).length + k ≤ 30000
        rw [List.length_append, List.length_singleton]
        omega
end
end Ws
set_option Elab.async false
set_option linter.all false
set_option maxRecDepth 100000
set_option maxHeartbeats 4000000
namespace Ws
open PySem PySem.Spec PyProof.Rows L2 Wt

section
variable {P : Program} {w : World} {K : PySem.W.Frag} {mg : Str → Option Value} {base : Heap}
theorem store_len (lo hi : Int) : ∀ (us : List Int) (pos : Int) (kvs : List (Int × Int)), (storeFrom lo hi pos us kvs).length ≤ kvs.length + us.length
  | [], pos, kvs => Nat.le_refl _
  | v :: r, pos, kvs => by
    show (storeFrom lo hi (pos + 1) r (if lo ≤ pos ∧ pos < hi then putD kvs pos v else kvs)).length ≤ _
    have h := store_len lo hi r (pos + 1) (if lo ≤ pos ∧ pos < hi then putD kvs pos v else kvs)
    have h2 : (if lo ≤ pos ∧ pos < hi then putD kvs pos v else kvs).length ≤ kvs.length + 1 := by
      split
      · unfold putD
        split
        · rw [List.length_map]; omega
        · rw [List.length_append, List.length_singleton]; exact Nat.le_refl _
      · omega
    rw [List.length_cons]
    omega
theorem putD_len (kvs : List (Int × Int)) (k v : Int) : (putD kvs k v).length ≤ kvs.length + 1 := by
  unfold putD
  split
  · rw [List.length_map]; omega
  · rw [List.length_append, List.length_singleton]; exact Nat.le_refl _
theorem store_more {lo hi pos v : Int} {us : List Int} {i : Nat} {kvs : List (Int × Int)} (h : us[i]? = some v) : storeFrom lo hi (pos + (i : Int)) (us.drop i) kvs = storeFrom lo hi (pos + ((i + 1 : Nat) : Int)) (us.drop (i + 1)) (if lo ≤ pos + (i : Int) ∧ pos + (i : Int) < hi then putD kvs (pos + (i : Int)) v else kvs) := by
  obtain ⟨hl, hx⟩ := List.getElem?_eq_some_iff.mp h
  have e1 : us.drop i = v :: us.drop (i + 1) := by rw [← hx]; exact List.drop_eq_getElem_cons hl
  rw [e1]
  show storeFrom lo hi (pos + (i : Int) + 1) (us.drop (i + 1)) _ = _
  rw [show pos + (i : Int) + 1 = pos + ((i + 1 : Nat) : Int) by omega]
def sp_accept (K : PySem.W.Frag) : Sp := fun vs H Q _ => ∃ T L n e o sa g e', vs = [.ref L.lk, .ref L.a, .ref sa] ∧ Rep K H T L n e o ∧ SegAt K H T sa g ∧ accept n e g = some e' ∧ ∀ H', Rep K H' T L n e' o → Fr H T H' T → Q .non H'
theorem sc_accept : FnScope ["link", "endpoint", "segment", "position", "limit", "at"] ["link", "endpoint", "segment"] (defScope s_accept) := ⟨rfl, rfl, rfl, by decide +kernel, rfl, by decide +kernel, by decide +kernel⟩
theorem ok_accept (D : DefsOk K mg) (F_position_of : OkF P w K mg base "position_of" 1 ["initial", "sequence", "reference"] (sp_position_of K)) (F_take_early : OkF P w K mg base "take_early" 1 ["endpoint"] (sp_take_early K)) (M_Link_window_of : OkM P w K mg base (He.ga K "Link") "window_of" 1 ["self", "endpoint"] (sp_Link_window_of K)) (M_Segment_has_flag : OkM P w K mg base (He.ga K "Segment") "has_flag" 1 ["self", "flag"] (sp_Segment_has_flag K)) : OkF P w K mg base "accept" 2 ["link", "endpoint", "segment"] (sp_accept K) := by
  have M := D.m
  refine okF (st := s_accept) (N := ["link", "endpoint", "segment", "position", "limit", "at"]) D.d_accept D.g_accept sc_accept (fun vs H Q E h => ?_) (fun _ _ _ _ _ _ us hl => match us, hl with | [_, _, _], _ => rfl) (fun cdv A outer s H vs Q E hr h => ?_)
  · obtain ⟨T, L, n, e, o, sa, g, e', rfl, R, G, ht, hQ⟩ := h
    rfl
  obtain ⟨T, L, n, e, o, sa, g, e', rfl, R, G, ht, hQ⟩ := h
  refine ⟨_, (pss_cons (ps_set (i := 3) sc_accept.nd rfl (Or.inl rfl) (c_call F_position_of (hr.mono (by decide)) rfl (pa_cons (pe_fld (pv 1) rfl) (pa_cons (pe_fld (pv 2) rfl) (pa_cons (pe_fld (pv 1) rfl) pa_nil)))))
      (pss_cons (ps_if (pt_cmp (pc_lt (pv 3) pe_int)) (pss_one ps_retN) pss_nil)
      (Evl.pss_cut (ps_if (pt_val (c_meth M_Segment_has_flag (hr.mono (by decide)) (pv 2) (pa_cons (pe_kon M.k_SYN) pa_nil))) (pss_one (ps_aug (i := 3) sc_accept.nd rfl (Or.inl rfl) pe_int ip_add)) pss_nil)
      (pss_cons (ps_set (i := 4) sc_accept.nd rfl (Or.inl rfl) (pe_op op_add (pe_fld (pv 1) rfl) (c_meth M_Link_window_of (hr.mono (by decide)) (pv 0) (pa_cons (pv 1) pa_nil))))
      (pss_cons (ps_for PassesOwn.never rfl (pi_range1 rfl M.b_range (pa_cons (pe_callB call_len_seq (by rfl) M.b_len bt_len (pa_cons (pe_fld (pv 2) rfl) pa_nil)) pa_nil)) (pg_name (i := 5) sc_accept.nd rfl (Or.inl rfl)) (pss_one (ps_if (pt_chain op_le op_lt (pe_fld (pv 1) rfl) (pe_op op_add (pv 3) (pv 5)) (pv 4)) (pss_one (ps_dput (hu_of hr) (pe_fld (pv 1) rfl) (pe_op op_add (pv 3) (pv 5)) (pe_ix ix_list (pe_fld (pv 2) rfl) (pv 5) (fun _ _ => rfl)) rfl)) pss_nil)))
      (Evl.pss_cut (ps_if (PW.pt (pw_and (pt_val (c_meth M_Segment_has_flag (hr.mono (by decide)) (pv 2) (pa_cons (pe_kon M.k_FIN) pa_nil))) (pw_and1 (pt_cmp (pc_le (pe_op op_add (pv 3) (pe_callB call_len_seq (by rfl) M.b_len bt_len (pa_cons (pe_fld (pv 2) rfl) pa_nil))) (pv 4)))))) (pss_one (ps_fld (pv 1) (pe_op op_add (pv 3) (pe_callB call_len_seq (by rfl) M.b_len bt_len (pa_cons (pe_fld (pv 2) rfl) pa_nil))) rfl)) pss_nil)
      (pss_one (ps_expr (c_call F_take_early (hr.mono (by decide)) rfl (pa_cons (pv 1) pa_nil)))))))))), ?_⟩
  unfold accept at ht
  split at ht
  case isFalse => cases ht
  rename_i hb
  obtain ⟨hb1, hb2, hb3⟩ := hb
  have he' := (Option.some.inj ht).symm
  have h16 : sizeLine = 16777216 := sizeLine_eq
  obtain ⟨dl, hl⟩ := R.lk
  obtain ⟨da, ha⟩ := R.ea.obj
  obtain ⟨dg, pl, bl, bs, hg, hgp, _, _, _, tg, tpl, _, nn⟩ := id G
  refine ⟨_, rfl, _, _, _, _, _, rfl, ha, M.tx.clE, M.tx.nE_peer_initial, lkE_peer_initial, _, rfl, _, _, _, _, _, rfl, hg, M.tx.clG, M.tx.nG_sequence, lkG_sequence, _, rfl, _, _, _, _, _, rfl, ha, M.tx.clE, M.tx.nE_expected, lkE_expected, e.peerInitial, g.seq, e.expected, rfl, ?_⟩
  refine ⟨_, rfl, _, _, rfl, rfl, _, rfl, ?_⟩
  refine ifD (c := posOf e.peerInitial g.seq e.expected < 0) (fun c => ?_) (fun c => ?_)
  · rw [if_pos c] at he'
    subst he'
    exact hQ H R (Fr.refl H T)
  rw [if_neg c] at he'
  -- position, behind the SYN
  refine ⟨fun σ H' => σ = [some (.ref L.lk), some (.ref L.a), some (.ref sa), some (.int (if g.has 1 = true then posOf e.peerInitial g.seq e.expected + 1 else posOf e.peerInitial g.seq e.expected)), none, none] ∧ H' = H, ?_, ?_⟩
  · refine ⟨_, rfl, sa, dg, _, rfl, hg, rfl, sa, dg, pl, bl, g, 1, rfl, hg, nn, by decide, _, rfl, ?_⟩
    refine ifB (fun c1 => ?_) (fun c1 => ?_)
    · refine ⟨_, rfl, _, _, rfl, rfl, ?_, rfl⟩
      rw [if_pos c1]
      rfl
    · refine ⟨?_, rfl⟩
      rw [if_neg (by rw [c1]; simp)]
      rfl
  generalize (if g.has 1 = true then posOf e.peerInitial g.seq e.expected + 1 else posOf e.peerInitial g.seq e.expected) = pos at he' ⊢
  rintro σ H' ⟨rfl, rfl⟩
  refine ⟨_, rfl, _, _, _, _, _, rfl, ha, M.tx.clE, M.tx.nE_expected, lkE_expected, _, rfl, L.lk, dl, _, rfl, hl, rfl, _, rfl, T, L, n, e, o, rfl, R, _, _, rfl, rfl, ?_⟩
  refine ⟨_, rfl, _, _, _, _, _, rfl, hg, M.tx.clG, M.tx.nG_payload, lkG_payload, _, _, rfl, .inl (SqL.of hgp), ((g.payload.map V.int).length : Int), rfl, ?_, ?_, ?_⟩
  · show -(2 ^ 62) ≤ ((g.payload.map V.int).length : Int)
    omega
  · show ((g.payload.map V.int).length : Int) < 2 ^ 62
    rw [List.length_map]
    omega
  rw [Int.toNat_natCast]
  refine for_range (lo := 0) (n := (g.payload.map V.int).length) (fun i σ H2 => ∃ kvs v5, σ = [some (.ref L.lk), some (.ref L.a), some (.ref sa), some (.int pos), some (.int (e.expected + win n e)), v5] ∧ Rep K H2 T L n { e with early := kvs } o ∧ Fr H' T H2 T ∧
    storeFrom e.expected (e.expected + win n e) (pos + (i : Int)) (g.payload.drop i) kvs = storeFrom e.expected (e.expected + win n e) pos g.payload e.early ∧ kvs.length ≤ 10000 + i) ⟨e.early, none, rfl, R, Fr.refl H' T, by simp, by omega⟩ ?_ ?_
  · rintro i σ H2 hi ⟨kvs, v5, rfl, R2, F2, hs, hk⟩
    rw [List.length_map] at hi
    obtain ⟨v, hv⟩ : ∃ v, g.payload[i]? = some v := ⟨_, List.getElem?_eq_getElem hi⟩
    have hg2 := (F2 _ _ hg).2.2 (.inl tg)
    have hgp2 := (F2 _ _ hgp).2.2 (.inl tpl)
    obtain ⟨da2, ha2⟩ := R2.ea.obj
    have C2 := R2.ea.c
    have hs2 := (store_more (lo := e.expected) (hi := e.expected + win n e) (pos := pos) (kvs := kvs) hv).symm.trans hs
    have ez : (0 : Int) + (i : Int) = (i : Int) := Int.zero_add _
    refine ⟨_, rfl, _, _, _, _, _, rfl, ha2, M.tx.clE, M.tx.nE_expected, lkE_expected, _, rfl, _, rfl, _, _, rfl, rfl, _, _, rfl, rfl, _, rfl, ?_⟩
    refine ifD (c := e.expected ≤ pos + (0 + (i : Int))) (fun c1 => ?_) (fun c1 => ?_)
    · refine ⟨_, rfl, _, _, rfl, rfl, _, rfl, ?_⟩
      refine ifD (c := pos + (0 + (i : Int)) < e.expected + win n e) (fun c2 => ?_) (fun c2 => ?_)
      · refine ⟨_, rfl, _, _, _, _, _, rfl, hg2, M.tx.clG, M.tx.nG_payload, lkG_payload, _, rfl, pl, _, _, V.int v, rfl, rfl, SqL.of hgp2, at_of ez (by rw [List.getElem?_map, hv]; rfl), _, rfl, _, _, _, _, _, rfl, ha2, M.tx.clE, M.tx.nE_early, lkE_early, _, rfl, _, rfl, _, _, rfl, rfl, _, _, rfl, DPut.k (k := Sum.inl (pos + (0 + (i : Int)))) C2.ea ?_, ?_⟩
        · show (kvs.map fun q => ((Sum.inl q.1 : Key), V.int q.2)).length < sizeLine
          rw [List.length_map]
          omega
        have ep : putK (kvs.map fun q => ((Sum.inl q.1 : Key), V.int q.2)) (Sum.inl (pos + (0 + (i : Int)))) (V.int v) = _ := putK_map kvs (pos + (0 + (i : Int))) v
        show (fun _ H2 => _) _ (upd H2 L.y.ea (.dK (putK (kvs.map fun q => ((Sum.inl q.1 : Key), V.int q.2)) (Sum.inl (pos + (0 + (i : Int)))) (V.int v))))
        rw [ep]
        generalize e3 : upd _ _ _ = H3
        obtain ⟨R3, F3⟩ := R2.mutEa (kvs := putD kvs (pos + (0 + (i : Int))) v) e3
        rw [ez] at R3 c1 c2
        rw [if_pos ⟨c1, c2⟩] at hs2
        refine ⟨putD kvs (pos + (i : Int)) v, _, rfl, R3, F2.trans F3, hs2, ?_⟩
        have := putD_len kvs (pos + (i : Int)) v
        omega
      · rw [ez] at c1 c2
        rw [if_neg (fun z => c2 z.2)] at hs2
        exact ⟨kvs, _, rfl, R2, F2, hs2, by omega⟩
    · rw [ez] at c1
      rw [if_neg (fun z => c1 z.1)] at hs2
      exact ⟨_, rfl, iteF ⟨kvs, _, rfl, R2, F2, hs2, by omega⟩⟩
  · rintro σ H2 ⟨kvs, v5, rfl, R2, F2, hs, hk⟩
    rw [List.length_map, List.drop_length] at hs
    have hs : kvs = storeFrom e.expected (e.expected + win n e) pos g.payload e.early := hs
    subst hs
    have hg2 := (F2 _ _ hg).2.2 (.inl tg)
    have hgp2 := (F2 _ _ hgp).2.2 (.inl tpl)
    obtain ⟨da2, ha2⟩ := R2.ea.obj
    refine ⟨fun σ H3 => (∃ v5, σ = [some (.ref L.lk), some (.ref L.a), some (.ref sa), some (.int pos), some (.int (e.expected + win n e)), v5]) ∧ Rep K H3 T L n (storeSeg n e g pos) o ∧ Fr H' T H3 T, ?_, ?_⟩
    · refine ⟨_, rfl, sa, dg, _, rfl, hg2, rfl, sa, dg, pl, bl, g, 2, rfl, hg2, nn, by decide, _, rfl, ?_⟩
      have no : (¬ (g.has 2 = true ∧ pos + (g.payload.length : Int) ≤ e.expected + win n e)) → (∃ v5', ([some (.ref L.lk), some (.ref L.a), some (.ref sa), some (.int pos), some (.int (e.expected + win n e)), v5] : L2.St) = [some (.ref L.lk), some (.ref L.a), some (.ref sa), some (.int pos), some (.int (e.expected + win n e)), v5']) ∧ Rep K H2 T L n (storeSeg n e g pos) o ∧ Fr H' T H2 T := fun z => by
        refine ⟨⟨_, rfl⟩, ?_, F2⟩
        unfold storeSeg
        rw [if_neg z]
        exact R2
      refine ifB (fun c1 => ?_) (fun c1 => ?_)
      · refine ⟨_, rfl, _, rfl, _, _, _, _, _, rfl, hg2, M.tx.clG, M.tx.nG_payload, lkG_payload, _, _, rfl, .inl (SqL.of hgp2), _, _, rfl, rfl, _, rfl, _, _, rfl, rfl, _, rfl, ?_⟩
        rw [List.length_map]
        refine ifD (c := pos + (g.payload.length : Int) ≤ e.expected + win n e) (fun c2 => ?_) (fun c2 => ?_)
        · refine ⟨_, rfl, _, rfl, _, _, _, _, _, rfl, hg2, M.tx.clG, M.tx.nG_payload, lkG_payload, _, _, rfl, .inl (SqL.of hgp2), _, _, rfl, rfl, _, rfl, _, _, _, _, rfl, ha2, M.tx.clE, M.tx.nE_fin_position, lnE, ?_⟩
          rw [List.length_map, ptE_fin_position]
          generalize e3 : upd _ _ _ = H3
          obtain ⟨R3, F3⟩ := R2.setE (e' := { e with early := storeFrom e.expected (e.expected + win n e) pos g.payload e.early, finPos := pos + (g.payload.length : Int) }) e3
          refine ⟨⟨_, rfl⟩, ?_, F2.trans F3⟩
          unfold storeSeg
          rw [if_pos ⟨c1, c2⟩]
          exact R3
        · exact no fun z => c2 z.2
      · exact iteF (no fun z => by rw [c1] at z; cases z.1)
    · rintro σ H3 ⟨⟨v5, rfl⟩, R3, F3⟩
      refine ⟨_, rfl, T, L, n, _, o, rfl, R3, ?_, hb2, fun H4 R4 F4 => ?_⟩
      · show (storeFrom e.expected (e.expected + win n e) pos g.payload e.early).length ≤ 20000
        have := store_len e.expected (e.expected + win n e) g.payload pos e.early
        omega
      · rw [he'] at hQ
        exact hQ H4 R4 (F3.trans F4)
end
end Ws
set_option Elab.async false
set_option linter.all false
set_option maxRecDepth 100000
set_option maxHeartbeats 4000000
namespace Ws
open PySem PySem.Spec PyProof.Rows L2 Wt

section
variable {P : Program} {w : World} {K : PySem.W.Frag} {mg : Str → Option Value} {base : Heap}
theorem measured_parts (n : MNet) (e : MEnd) (pos : Int) : (measured n e pos).parts = e.parts ∧ (measured n e pos).state = e.state ∧ (measured n e pos).acknowledged = e.acknowledged := by
  unfold measured
  split
  · exact ⟨rfl, rfl, rfl⟩
  · split
    · unfold measure
      split <;> exact ⟨rfl, rfl, rfl⟩
    · exact ⟨rfl, rfl, rfl⟩
theorem grow_parts {n : MNet} {e e2 : MEnd} {many : Int} (h : grow n e many = some e2) : e2.parts = e.parts := by
  unfold grow at h
  split at h
  · cases h
    rfl
  · cases h
theorem filter_snd {l : List (Addr × MPart)} {p : MPart → Bool} : (l.filter fun q => p q.2).map (·.2) = (l.map (·.2)).filter p := by
  rw [List.filter_map]
  rfl
def sp_acknowledge (K : PySem.W.Frag) : Sp := fun vs H Q _ => ∃ T L n e o pos e', vs = [.ref L.lk, .ref L.a, .int pos] ∧ Rep K H T L n e o ∧ acknowledge n e pos = some e' ∧ ∀ H' T' L', Rep K H' T' L' n e' o → Nx H T L H' T' L' → Q .non H'
theorem sc_acknowledge : FnScope ["link", "endpoint", "position", "covered", "first", "part"] ["link", "endpoint", "position"] (defScope s_acknowledge) := ⟨rfl, rfl, rfl, by decide +kernel, rfl, by decide +kernel, by decide +kernel⟩
theorem ok_acknowledge (D : DefsOk K mg) (F_grow : OkF P w K mg base "grow" 1 ["link", "endpoint", "many"] (sp_grow K)) (F_measure : OkF P w K mg base "measure" 1 ["link", "endpoint", "part"] (sp_measure K)) (F_start_timer : OkF P w K mg base "start_timer" 1 ["link", "endpoint"] (sp_start_timer K)) (M_Part_end : OkM P w K mg base (He.ga K "Part") "end" 1 ["self"] (sp_Part_end K)) : OkF P w K mg base "acknowledge" 2 ["link", "endpoint", "position"] (sp_acknowledge K) := by
  have M := D.m
  refine okF (st := s_acknowledge) (N := ["link", "endpoint", "position", "covered", "first", "part"]) D.d_acknowledge D.g_acknowledge sc_acknowledge (fun vs H Q E h => ?_) (fun _ _ _ _ _ _ us hl => match us, hl with | [_, _, _], _ => rfl) (fun cdv A outer s H vs Q E hr h => ?_)
  · obtain ⟨T, L, n, e, o, pos, e', rfl, R, ht, hQ⟩ := h
    rfl
  obtain ⟨T, L, n, e, o, pos, e', rfl, R, ht, hQ⟩ := h
  refine ⟨_, (pss_cons (ps_setLc (i := 3) (own := [("part", 5)]) (g := gName 5) rfl sc_acknowledge.nd rfl rfl (sw_true rfl rfl rfl (by decide +kernel)) (pi_list (pe_fld (pv 1) rfl)) (blkOk_by (N := ["link", "endpoint", "position", "covered", "first", "part"]) (sc := defScope s_acknowledge) (by decide +kernel)) (fun _ _ _ _ _ => pg_name (i := 5) sc_acknowledge.nd rfl (Or.inl rfl)) (fun _ _ _ _ _ => pts_one (by exact (pt_cmp (pc_le (c_meth0 M_Part_end (hr.mono (by decide)) (pv 5)) (pv 2))))) (fun _ _ _ _ _ => by exact (pv 5)))
      (Evl.pss_cut (ps_if (PW.pt (pw_and (pt_cmpR (op_neN (X := _) hr.units) (pv 3) (pe_lst pa_nil) (nomark _)) (pw_and1 (pt_cmp (pc_eqI (pe_fld (pe_ix ix_list (pv 3) (pe_un un_neg pe_int) (fun _ _ => rfl)) rfl) pe_int))))) (pss_one (ps_expr (c_call F_measure (hr.mono (by decide)) rfl (pa_cons (pv 0) (pa_cons (pv 1) (pa_cons (pe_ix ix_list (pv 3) (pe_un un_neg pe_int) (fun _ _ => rfl)) pa_nil)))))) pss_nil)
      (Evl.pss_cut (ps_if (pt_cmp (pc_eqI (pe_fld (pv 1) rfl) (pe_kon M.k_ESTABLISHED))) (pss_one (ps_expr (c_call F_grow (hr.mono (by decide)) rfl (pa_cons (pv 0) (pa_cons (pv 1) (pa_cons (pe_op op_sub (pv 2) (pe_fld (pv 1) rfl)) pa_nil)))))) pss_nil)
      (pss_cons (ps_fld (pv 1) (pv 2) rfl)
      (pss_cons (ps_fld (pv 1) (pe_lc (own := [("part", 5)]) (g := gName 5) rfl sc_acknowledge.nd (pi_list (pe_fld (pv 1) rfl)) (blkOk_by (N := ["link", "endpoint", "position", "covered", "first", "part"]) (sc := defScope s_acknowledge) (by decide +kernel)) (fun _ _ _ _ _ => pg_name (i := 5) sc_acknowledge.nd rfl (Or.inl rfl)) (fun _ _ _ _ _ => pts_one (by exact (pt_cmp (pc_gt (c_meth0 M_Part_end (hr.mono (by decide)) (pv 5)) (pv 2))))) (fun _ _ _ _ _ => by exact (pv 5))) rfl)
      (Evl.pss_cut (ps_if (PW.pt (pw_and (pt_cmpR (op_neN (X := _) hr.units) (pe_fld (pv 1) rfl) (pe_lst pa_nil) (nomark _)) (pw_and1 (pt_cmp (pc_lt (pe_fld (pe_ix ix_list (pe_fld (pv 1) rfl) pe_int (fun _ _ => rfl)) rfl) (pv 2)))))) (pss_cons (ps_set (i := 4) sc_acknowledge.nd rfl (Or.inl rfl) (pe_ix ix_list (pe_fld (pv 1) rfl) pe_int (fun _ _ => rfl)))
      (pss_cons (ps_fld (pv 4) (pe_slice sl_list (pe_fld (pv 4) rfl) (po_some (pe_op op_sub (pv 2) (pe_fld (pv 4) rfl))) po_none) rfl)
      (pss_one (ps_fld (pv 4) (pv 2) rfl)))) pss_nil)
      (pss_cons (ps_fld (pv 1) pe_int rfl)
      (pss_cons (ps_fld (pv 1) pe_non rfl)
      (pss_one (ps_if (pt_cmpR (op_neN (X := _) hr.units) (pe_fld (pv 1) rfl) (pe_lst pa_nil) (nomark _)) (pss_one (ps_expr (c_call F_start_timer (hr.mono (by decide)) rfl (pa_cons (pv 0) (pa_cons (pv 1) pa_nil))))) pss_nil)))))))))), ?_⟩
  unfold acknowledge at ht
  split at ht
  case isFalse => cases ht
  rename_i hz
  obtain ⟨e2, hg, he⟩ := bind_some ht
  have he' := (Option.some.inj he).symm
  subst he'
  have h16 : sizeLine = 16777216 := sizeLine_eq
  obtain ⟨mp, ms, ma⟩ := measured_parts n e pos
  obtain ⟨da, ha⟩ := R.ea.obj
  have C := R.ea.c
  have lps : L.y.ps.length = e.parts.length := by rw [C.ps, List.length_map]
  -- covered
  refine ⟨_, rfl, _, _, _, _, _, rfl, ha, M.tx.clE, M.tx.nE_parts, lkE_parts, _, rfl, ⟨_, SqL.of C.pts⟩, fun D hD => ?_⟩
  refine lc_list (K := K) (xs := L.y.ps.map fun q => V.ref q.1) (fun i H' => Same H H' ∧ H D = none ∧ H' D = some (.lst (((L.y.ps.take i).filter fun q => decide (q.2.fin ≤ pos)).map fun q => V.ref q.1))) ⟨same_upd hD, hD, upd_same⟩ (fun i H' _ h => SqL.of (h.1 _ _ C.pts)) ?_ ?_
  · rintro i x H1 hx ⟨s1, hD, h1⟩
    rw [List.getElem?_map] at hx
    obtain ⟨q, hq, rfl⟩ := Option.map_eq_some_iff.mp hx
    obtain ⟨dp, pl, g1, g2, g3⟩ := (C.part q (List.mem_of_getElem? hq)).obj
    have g1 := s1 _ _ g1
    have g2 := s1 _ _ g2
    refine ⟨rfl, ?_⟩
    refine ⟨_, rfl, q.1, dp, _, rfl, g1, rfl, q.1, dp, pl, q.2, rfl, g1, g2, _, rfl, _, _, rfl, rfl, _, rfl, ?_⟩
    refine ifD (c := q.2.fin ≤ pos) (fun c => ?_) (fun c => ?_)
    · refine ⟨_, rfl, _, h1, ?_, ?_, hD, ?_⟩
      · have := List.length_filter_le (fun q : Addr × MPart => decide (q.2.fin ≤ pos)) (L.y.ps.take i)
        rw [List.length_take] at this
        rw [List.length_map]
        omega
      · exact fun b u hb => by
          rw [upd_ne (ne_of_none hb hD)]
          exact s1 b u hb
      · rw [upd_same, take_more hq, List.filter_append, List.map_append]
        have e1 : [q].filter (fun q => decide (q.2.fin ≤ pos)) = [q] := by rw [List.filter_cons, if_pos (by simpa using c)]; rfl
        rw [e1]
        rfl
    · refine ⟨s1, hD, ?_⟩
      rw [h1, take_more hq, List.filter_append]
      have e1 : [q].filter (fun q => decide (q.2.fin ≤ pos)) = [] := by rw [List.filter_cons, if_neg (by simpa using c)]; rfl
      rw [e1, List.append_nil]
  rintro H1 ⟨s1, hD, h1⟩
  rw [List.length_map, List.take_length] at h1
  obtain ⟨R1, F1⟩ := R.sameF s1
  have C1 := R1.ea.c
  -- the measurement
  refine ⟨fun σ H' => σ = [some (.ref L.lk), some (.ref L.a), some (.int pos), some (.ref D), none, none] ∧ Rep K H' T L n (measured n e pos) o ∧ Fr H T H' T, ?_, ?_⟩
  · have cov : ((L.y.ps.filter fun q => decide (q.2.fin ≤ pos)).map (·.2)) = e.parts.filter fun p => decide (p.fin ≤ pos) := by
      rw [C.ps]
      exact filter_snd (p := fun p => decide (p.fin ≤ pos))
    refine ⟨_, rfl, (by show 0 ≤ sizeLine; decide), fun w hw => ?_⟩
    generalize e2 : upd _ _ _ = H2
    have s2 : Same H1 H2 := by rw [← e2]; exact same_upd hw
    have hw2 : H2 w = some (.lst []) := by rw [← e2]; exact upd_same
    obtain ⟨R2, F2⟩ := R1.sameF s2
    have F12 := F1.trans F2
    refine ⟨_, w, _, rfl, rfl, SqL.of (s2 _ _ h1), SqL.of hw2, _, rfl, ?_⟩
    refine ifNE (fun ne => ?_) (fun em => ?_)
    · have ne2 : (L.y.ps.filter fun q => decide (q.2.fin ≤ pos)) ≠ [] := fun z => ne (by rw [z]; rfl)
      obtain ⟨q0, hq0⟩ : ∃ q0, (L.y.ps.filter fun q => decide (q.2.fin ≤ pos)).getLast? = some q0 := by
        cases h : (L.y.ps.filter fun q => decide (q.2.fin ≤ pos)).getLast? with
        | none => exact absurd (List.getLast?_eq_none_iff.mp h) ne2
        | some q0 => exact ⟨q0, rfl⟩
      have lq : ((L.y.ps.filter fun q => decide (q.2.fin ≤ pos)).map fun q => V.ref q.1).getLast? = some (.ref q0.1) := by rw [List.getLast?_map, hq0]; rfl
      have lr : (e.parts.filter fun p => decide (p.fin ≤ pos)).getLast? = some q0.2 := by rw [← cov, List.getLast?_map, hq0]; rfl
      have mq : q0 ∈ L.y.ps := (List.mem_filter.mp (List.mem_of_getLast? hq0)).1
      obtain ⟨dp, pl, g1, g2, g3⟩ := (C.part q0 mq).obj
      have g1 := s2 _ _ (s1 _ _ g1)
      refine ⟨_, rfl, _, rfl, D, _, -1, _, rfl, rfl, SqL.of (s2 _ _ h1), atI_last lq, _, _, _, _, _, rfl, g1, M.tx.clP, M.tx.nP_transmissions, lkP_transmissions, _, _, rfl, rfl, _, rfl, ?_⟩
      have em : measured n e pos = if q0.2.transmissions = 1 then measure n e q0.2 else e := by
        unfold measured
        rw [lr]
      refine ifD (c := q0.2.transmissions = 1) (fun c => ?_) (fun c => ?_)
      · rw [if_pos c] at em
        refine ⟨_, rfl, _, rfl, _, rfl, _, rfl, D, _, -1, _, rfl, rfl, SqL.of (s2 _ _ h1), atI_last lq, T, L, n, e, o, q0.1, dp, pl, q0.2, rfl, R2, g1, fun H3 R3 F3 => ?_⟩
        rw [em]
        exact ⟨rfl, R3, F12.trans F3⟩
      · rw [if_neg c] at em
        rw [em]
        exact ⟨rfl, R2, F12⟩
    · have emp : (L.y.ps.filter fun q => decide (q.2.fin ≤ pos)) = [] := List.map_eq_nil_iff.mp em
      have em : measured n e pos = e := by
        unfold measured
        rw [← cov, emp]
        rfl
      rw [em]
      exact iteF ⟨rfl, R2, F12⟩
  rintro σ H3 ⟨rfl, R3, F3⟩
  -- the congestion window
  refine ⟨fun σ H' => σ = [some (.ref L.lk), some (.ref L.a), some (.int pos), some (.ref D), none, none] ∧ Rep K H' T L n e2 o ∧ Fr H T H' T, ?_, ?_⟩
  · obtain ⟨da3, ha3⟩ := R3.ea.obj
    refine ⟨_, rfl, _, _, _, _, _, rfl, ha3, M.tx.clE, M.tx.nE_state, lkE_state, _, _, rfl, rfl, _, rfl, ?_⟩
    rw [ms]
    refine ifD (c := e.state = 4) (fun c => ?_) (fun c => ?_)
    · rw [if_pos c] at hg
      refine ⟨_, rfl, _, rfl, _, rfl, _, rfl, _, _, _, _, _, rfl, ha3, M.tx.clE, M.tx.nE_acknowledged, lkE_acknowledged, _, _, rfl, rfl, ?_⟩
      rw [ma]
      exact ⟨T, L, n, _, o, _, e2, rfl, R3, hg, fun H4 R4 F4 => ⟨rfl, R4, F3.trans F4⟩⟩
    · rw [if_neg c] at hg
      cases hg
      exact ⟨rfl, R3, F3⟩
  have ep2 : e2.parts = e.parts := by
    by_cases c : e.state = 4
    · rw [if_pos c] at hg
      rw [grow_parts hg, mp]
    · rw [if_neg c] at hg
      cases hg
      exact mp
  rintro σ H4 ⟨rfl, R4, F4⟩
  obtain ⟨da4, ha4⟩ := R4.ea.obj
  refine ⟨_, rfl, _, rfl, _, _, _, _, rfl, ha4, M.tx.clE, M.tx.nE_acknowledged, lnE, ?_⟩
  rw [ptE_acknowledged]
  generalize e5 : upd _ _ _ = H5
  obtain ⟨R5, F5⟩ := R4.setE (e' := { e2 with acknowledged := pos }) e5
  obtain ⟨da5, ha5⟩ := R5.ea.obj
  have C5 := R5.ea.c
  -- the parts behind the position
  refine ⟨_, rfl, _, _, _, _, _, rfl, ha5, M.tx.clE, M.tx.nE_parts, lkE_parts, _, rfl, ⟨_, SqL.of C5.pts⟩, fun D2 hD2 => ?_⟩
  refine lc_list (K := K) (xs := L.y.ps.map fun q => V.ref q.1) (fun i H' => Same H5 H' ∧ H5 D2 = none ∧ H' D2 = some (.lst (((L.y.ps.take i).filter fun q => decide (q.2.fin > pos)).map fun q => V.ref q.1))) ⟨same_upd hD2, hD2, upd_same⟩ (fun i H' _ h => SqL.of (h.1 _ _ C5.pts)) ?_ ?_
  · rintro i x H1 hx ⟨s1, hD, h1⟩
    rw [List.getElem?_map] at hx
    obtain ⟨q, hq, rfl⟩ := Option.map_eq_some_iff.mp hx
    obtain ⟨dp, pl, g1, g2, g3⟩ := (C5.part q (List.mem_of_getElem? hq)).obj
    have g1 := s1 _ _ g1
    have g2 := s1 _ _ g2
    refine ⟨rfl, ?_⟩
    refine ⟨_, rfl, q.1, dp, _, rfl, g1, rfl, q.1, dp, pl, q.2, rfl, g1, g2, _, rfl, _, _, rfl, rfl, _, rfl, ?_⟩
    refine ifD (c := pos < q.2.fin) (fun c => ?_) (fun c => ?_)
    · refine ⟨_, rfl, _, h1, ?_, ?_, hD, ?_⟩
      · have := List.length_filter_le (fun q : Addr × MPart => decide (q.2.fin > pos)) (L.y.ps.take i)
        rw [List.length_take] at this
        rw [List.length_map]
        omega
      · exact fun b u hb => by
          rw [upd_ne (ne_of_none hb hD)]
          exact s1 b u hb
      · rw [upd_same, take_more hq, List.filter_append, List.map_append]
        have e1 : [q].filter (fun q => decide (q.2.fin > pos)) = [q] := by rw [List.filter_cons, if_pos (by simpa using c)]; rfl
        rw [e1]
        rfl
    · refine ⟨s1, hD, ?_⟩
      rw [h1, take_more hq, List.filter_append]
      have e1 : [q].filter (fun q => decide (q.2.fin > pos)) = [] := by rw [List.filter_cons, if_neg (by simpa using c)]; rfl
      rw [e1, List.append_nil]
  rintro H6 ⟨s6, hD2, h6⟩
  rw [List.length_map, List.take_length] at h6
  have t6 : ∀ q u, H5 q = some u → rtg H5 T D2 (.pts L.i) q = T q := fun q u h => rtg_old hD2 h
  have R6 : Rep K H6 (rtg H5 T D2 (.pts L.i)) L n { e2 with acknowledged := pos } o := R5.same s6 t6
  have F6 : Fr H5 T H6 (rtg H5 T D2 (.pts L.i)) := Fr.of_same s6 t6
  have tD2 : rtg H5 T D2 (.pts L.i) D2 = .pts L.i := rtg_at
  generalize rtg H5 T D2 (.pts L.i) = T6 at R6 F6 tD2
  have F06 := (F4.trans F5).trans F6
  obtain ⟨da6, ha6⟩ := R6.ea.obj
  refine ⟨_, rfl, _, _, _, _, rfl, ha6, M.tx.clE, M.tx.nE_parts, lnE, ?_⟩
  rw [ptE_parts]
  generalize e7 : upd _ _ _ = H7
  have C6 := R6.ea.c
  have keepP : ∀ q ∈ L.y.ps.filter (fun q => decide (q.2.fin > pos)), PartAt K H6 T6 L.i q.1 q.2 := fun q m => C6.part q (List.mem_filter.mp m).1
  have ndP : ((L.y.ps.filter fun q => decide (q.2.fin > pos)).map (·.1)).Nodup := C6.nd.sublist (List.filter_sublist.map _)
  obtain ⟨R7, F7⟩ := R6.putPts (ps' := L.y.ps.filter fun q => decide (q.2.fin > pos)) h6 tD2 keepP ndP e7
  have F07 := F06.trans F7
  have lst : ((L.y.ps.filter fun q => decide (q.2.fin > pos)).map (·.2)) = e2.parts.filter fun p => decide (p.fin > pos) := by
    rw [ep2, C.ps]
    exact filter_snd (p := fun p => decide (p.fin > pos))
  generalize hps : L.y.ps.filter (fun q => decide (q.2.fin > pos)) = ps at R7 lst
  -- the first part is shortened
  refine ⟨fun σ H' => (∃ v4, σ = [some (.ref L.lk), some (.ref L.a), some (.int pos), some (.ref D), v4, none]) ∧ ∃ T' L', Rep K H' T' L' n { e2 with acknowledged := pos, parts := trimmed pos (e2.parts.filter fun p => decide (p.fin > pos)) } o ∧ Nx H T L H' T' L', ?_, ?_⟩
  · obtain ⟨da7, ha7⟩ := R7.ea.obj
    refine ⟨_, rfl, _, _, _, _, _, rfl, ha7, M.tx.clE, M.tx.nE_parts, lkE_parts, (by show 0 ≤ sizeLine; decide), fun w hw => ?_⟩
    generalize e8 : upd _ _ _ = H8
    have s8 : Same H7 H8 := by rw [← e8]; exact same_upd hw
    have hw8 : H8 w = some (.lst []) := by rw [← e8]; exact upd_same
    obtain ⟨R8, F8⟩ := R7.sameF s8
    have C8 := R8.ea.c
    obtain ⟨da8, ha8⟩ := R8.ea.obj
    have F08 := F07.trans F8
    refine ⟨_, w, _, rfl, rfl, SqL.of C8.pts, SqL.of hw8, _, rfl, ?_⟩
    cases hc : ps with
    | nil =>
      have eqp : ps.map (·.2) = trimmed pos (e2.parts.filter fun p => decide (p.fin > pos)) := by
        rw [← lst, hc]
        rfl
      refine iteF ⟨⟨none, rfl⟩, T6, { L with y := { L.y with pts := D2, ps := ps } }, ?_, ⟨rfl, rfl, rfl, rfl, F08⟩⟩
      rw [← eqp]
      exact R8
    | cons q r =>
      refine iteT ?_
      rw [hc] at C8
      have q0 : ({ L with y := { L.y with pts := D2, ps := ps } } : Lay).y.ps[0]? = some (q.1, q.2) := by show ps[0]? = _; rw [hc]; rfl
      obtain ⟨dp, pl, g1, g2, g3⟩ := (C8.part q List.mem_cons_self).obj
      have nn := (C8.part q List.mem_cons_self).nn
      have at0 : atI ((q :: r).map fun q => V.ref q.1) 0 = some (.ref q.1) := at_of (j := 0) rfl rfl
      have et : trimmed pos (e2.parts.filter fun p => decide (p.fin > pos)) = if q.2.position < pos then { q.2 with payload := q.2.payload.drop (pos - q.2.position).toNat, position := pos } :: r.map (·.2) else q.2 :: r.map (·.2) := by
        rw [← lst, hc]
        rfl
      refine ⟨_, rfl, _, _, _, _, _, rfl, ha8, M.tx.clE, M.tx.nE_parts, lkE_parts, D2, _, 0, _, rfl, rfl, SqL.of C8.pts, at0, _, _, _, _, _, rfl, g1, M.tx.clP, M.tx.nP_position, lkP_position, _, rfl, _, _, rfl, rfl, _, rfl, ?_⟩
      refine ifD (c := q.2.position < pos) (fun c => ?_) (fun c => ?_)
      · rw [if_pos c] at et
        refine ⟨_, rfl, _, _, _, _, _, rfl, ha8, M.tx.clE, M.tx.nE_parts, lkE_parts, D2, _, 0, _, rfl, rfl, SqL.of C8.pts, at0, ?_⟩
        refine ⟨_, rfl, _, _, _, _, _, rfl, g1, M.tx.clP, M.tx.nP_payload, lkP_payload, _, rfl, _, rfl, _, _, _, _, _, rfl, g1, M.tx.clP, M.tx.nP_position, lkP_position, _, _, rfl, rfl, _, rfl, pl, _, rfl, SqL.of g2, fun p9 hp9 => ?_⟩
        rw [cut_drop (f := V.int) q.2.payload (show 0 ≤ pos - q.2.position by omega)]
        generalize e9 : upd _ _ _ = H9
        obtain ⟨R9, F9, hp9', tp9, s9⟩ := R8.alloc hp9 .frz e9
        refine ⟨_, rfl, _, _, _, _, rfl, s9 _ _ g1, M.tx.clP, M.tx.nP_payload, lnP, ?_⟩
        rw [ptP_payload]
        generalize e10 : upd _ _ _ = H10
        obtain ⟨R10, F10⟩ := R9.mutPart (q' := { q.2 with payload := q.2.payload.drop (pos - q.2.position).toNat }) (pl := p9) q0 hp9' tp9 nn e10
        obtain ⟨g10, o10⟩ := keep_upd e10
        have n9 : p9 ≠ q.1 := fun z => by rw [z, s9 _ _ g1] at hp9'; cases hp9'
        have hp10 := (o10 p9 n9).trans hp9'
        refine ⟨_, rfl, _, rfl, _, _, _, _, rfl, g10, M.tx.clP, M.tx.nP_position, lnP, ?_⟩
        rw [ptP_position]
        generalize e11 : upd _ _ _ = H11
        have q10 : (ps.set 0 (q.1, { q.2 with payload := q.2.payload.drop (pos - q.2.position).toNat }))[0]? = some (q.1, { q.2 with payload := q.2.payload.drop (pos - q.2.position).toNat }) := by rw [hc]; rfl
        have e11' : upd H10 q.1 (.ins (cP K) dp (fP { q.2 with payload := q.2.payload.drop (pos - q.2.position).toNat, position := pos } p9)) = H11 := e11
        obtain ⟨R11, F11⟩ := R10.mutPart (q' := { q.2 with payload := q.2.payload.drop (pos - q.2.position).toNat, position := pos }) (pl := p9) q10 hp10 tp9 nn e11'
        refine ⟨⟨_, rfl⟩, rtg H8 T6 p9 .frz, { L with y := { L.y with pts := D2, ps := (ps.set 0 (q.1, { q.2 with payload := q.2.payload.drop (pos - q.2.position).toNat })).set 0 (q.1, { q.2 with payload := q.2.payload.drop (pos - q.2.position).toNat, position := pos }) } }, ?_, ⟨rfl, rfl, rfl, rfl, ((F08.trans F9).trans F10).trans F11⟩⟩
        have eqp : ((ps.map (·.2)).set 0 { q.2 with payload := q.2.payload.drop (pos - q.2.position).toNat }).set 0 { q.2 with payload := q.2.payload.drop (pos - q.2.position).toNat, position := pos } = trimmed pos (e2.parts.filter fun p => decide (p.fin > pos)) := by
          rw [et, hc]
          rfl
        rw [← eqp]
        exact R11
      · rw [if_neg c] at et
        refine ⟨⟨none, rfl⟩, T6, { L with y := { L.y with pts := D2, ps := ps } }, ?_, ⟨rfl, rfl, rfl, rfl, F08⟩⟩
        have eqp : ps.map (·.2) = trimmed pos (e2.parts.filter fun p => decide (p.fin > pos)) := by
          rw [et, hc]
          rfl
        rw [← eqp]
        exact R8
  rintro σ H8 ⟨⟨v4, rfl⟩, T8, L8, R8, N8⟩
  have ea8 : L8.a = L.a := N8.2.1
  have el8 : L8.lk = L.lk := N8.1
  unfold settle at hQ
  generalize hpt : trimmed pos (e2.parts.filter fun p => decide (p.fin > pos)) = pt at R8 hQ
  obtain ⟨da8, ha8⟩ := R8.ea.obj
  rw [ea8] at ha8
  refine ⟨_, rfl, _, _, _, _, rfl, ha8, M.tx.clE, M.tx.nE_duplicates, lnE, ?_⟩
  rw [ptE_duplicates]
  generalize e9 : upd _ _ _ = H9
  rw [← ea8] at e9
  obtain ⟨R9, F9⟩ := R8.setE (e' := { e2 with acknowledged := pos, parts := pt, duplicates := 0 }) e9
  obtain ⟨da9, ha9⟩ := R9.ea.obj
  rw [ea8] at ha9
  refine ⟨_, rfl, _, _, _, _, rfl, ha9, M.tx.clE, M.tx.nE_timer, lnE, ?_⟩
  have et := ptE_timer (e := { e2 with acknowledged := pos, parts := pt, duplicates := 0 }) (y := L8.y) none
  rw [show tV none = V.non from rfl] at et
  rw [et]
  generalize e10 : upd _ _ _ = H10
  rw [← ea8] at e10
  obtain ⟨R10, F10⟩ := R9.setE (e' := { e2 with acknowledged := pos, parts := pt, duplicates := 0, timer := none }) e10
  obtain ⟨da10, ha10⟩ := R10.ea.obj
  rw [ea8] at ha10
  refine ⟨_, rfl, _, _, _, _, _, rfl, ha10, M.tx.clE, M.tx.nE_parts, lkE_parts, (by show 0 ≤ sizeLine; decide), fun w hw => ?_⟩
  generalize e11 : upd _ _ _ = H11
  have s11 : Same H10 H11 := by rw [← e11]; exact same_upd hw
  have hw11 : H11 w = some (.lst []) := by rw [← e11]; exact upd_same
  obtain ⟨R11, F11⟩ := R10.sameF s11
  have C11 := R11.ea.c
  have N11 : Nx H T L H11 T8 L8 := Nx.trans N8 ⟨rfl, rfl, rfl, rfl, (F9.trans F10).trans F11⟩
  refine ⟨_, w, _, rfl, rfl, SqL.of C11.pts, SqL.of hw11, _, rfl, ?_⟩
  refine ifNE (fun ne => ?_) (fun em => ?_)
  · have pn : pt ≠ [] := fun z => ne (by
      have := C11.ps
      rw [show ({ e2 with acknowledged := pos, parts := pt, duplicates := 0, timer := none } : MEnd).parts = pt from rfl, z] at this
      rw [List.map_eq_nil_iff.mp this.symm]
      rfl)
    rw [if_neg pn] at hQ
    refine ⟨_, rfl, _, rfl, T8, L8, n, _, o, by rw [el8, ea8]; rfl, R11, fun H12 R12 F12 => ?_⟩
    exact hQ H12 T8 L8 R12 (Nx.trans N11 ⟨rfl, rfl, rfl, rfl, F12⟩)
  · have pn : pt = [] := by
      have := C11.ps
      rw [show pt = _ from this, List.map_eq_nil_iff.mp em]
      rfl
    rw [if_pos pn] at hQ
    exact hQ H11 T8 L8 R11 N11
end
end Ws
set_option Elab.async false
set_option linter.all false
set_option maxRecDepth 100000
set_option maxHeartbeats 4000000
namespace Ws
open PySem PySem.Spec PyProof.Rows L2 Wt

section
variable {P : Program} {w : World} {K : PySem.W.Frag} {mg : Str → Option Value} {base : Heap}
def sp_count_duplicate (K : PySem.W.Frag) : Sp := fun vs H Q _ => ∃ T L n e o r, vs = [.ref L.lk, .ref L.a] ∧ Rep K H T L n e o ∧ countDup n e = some r ∧ ∀ H' T' L', Rep K H' T' L' r.1 r.2 o → Nx H T L H' T' L' → Q .non H'
theorem sc_count_duplicate : FnScope ["link", "endpoint"] ["link", "endpoint"] (defScope s_count_duplicate) := ⟨rfl, rfl, rfl, by decide +kernel, rfl, by decide +kernel, by decide +kernel⟩
theorem ok_count_duplicate (D : DefsOk K mg) (F_halved : OkF P w K mg base "halved" 2 ["link", "endpoint"] (sp_halved K)) (F_retransmit : OkF P w K mg base "retransmit" 5 ["link", "endpoint"] (sp_retransmit K)) (F_start_timer : OkF P w K mg base "start_timer" 1 ["link", "endpoint"] (sp_start_timer K)) : OkF P w K mg base "count_duplicate" 6 ["link", "endpoint"] (sp_count_duplicate K) := by
  have M := D.m
  refine okF (st := s_count_duplicate) (N := ["link", "endpoint"]) D.d_count_duplicate D.g_count_duplicate sc_count_duplicate (fun vs H Q E h => ?_) (fun _ _ _ _ _ _ us hl => match us, hl with | [_, _], _ => rfl) (fun cdv A outer s H vs Q E hr h => ?_)
  · obtain ⟨T, L, n, e, o, r, rfl, R, ht, hQ⟩ := h
    rfl
  obtain ⟨T, L, n, e, o, r, rfl, R, ht, hQ⟩ := h
  refine ⟨_, (pss_cons (ps_fldaug (pv 1) pe_int in_add)
      (pss_one (ps_if (pt_cmp (pc_eqI (pe_fld (pv 1) rfl) (pe_kon M.k_ENOUGH_DUPLICATES))) (pss_cons (ps_fld (pv 1) (c_call F_halved (hr.mono (by decide)) rfl (pa_cons (pv 0) (pa_cons (pv 1) pa_nil))) rfl)
      (pss_cons (ps_fld (pv 1) (pe_fld (pv 1) rfl) rfl)
      (pss_cons (ps_expr (c_call F_start_timer (hr.mono (by decide)) rfl (pa_cons (pv 0) (pa_cons (pv 1) pa_nil))))
      (pss_one (ps_expr (c_call F_retransmit (hr.mono (by decide)) rfl (pa_cons (pv 0) (pa_cons (pv 1) pa_nil)))))))) pss_nil))), ?_⟩
  unfold countDup at ht
  obtain ⟨da, ha⟩ := R.ea.obj
  refine ⟨_, rfl, _, _, _, _, _, rfl, ha, M.tx.clE, M.tx.nE_duplicates, lkE_duplicates, _, _, rfl, rfl, da, _, ha, lnE, ?_⟩
  rw [ptE_duplicates]
  generalize e1 : upd _ _ _ = H1
  obtain ⟨R1, F1⟩ := R.setE (e' := { e with duplicates := e.duplicates + 1 }) e1
  obtain ⟨da1, ha1⟩ := R1.ea.obj
  refine ⟨_, rfl, _, _, _, _, _, rfl, ha1, M.tx.clE, M.tx.nE_duplicates, lkE_duplicates, _, _, rfl, rfl, _, rfl, ?_⟩
  refine ifD (c := e.duplicates + 1 = 3) (fun c => ?_) (fun c => ?_)
  · rw [if_pos c] at ht
    refine ⟨_, rfl, _, rfl, T, L, n, _, o, rfl, R1, _, rfl, _, _, _, _, rfl, ha1, M.tx.clE, M.tx.nE_threshold, lnE, ?_⟩
    rw [ptE_threshold]
    generalize e2 : upd _ _ _ = H2
    obtain ⟨R2, F2⟩ := R1.setE (e' := { e with duplicates := e.duplicates + 1, threshold := halved n e }) e2
    obtain ⟨da2, ha2⟩ := R2.ea.obj
    refine ⟨_, rfl, _, _, _, _, _, rfl, ha2, M.tx.clE, M.tx.nE_threshold, lkE_threshold, _, rfl, _, _, _, _, rfl, ha2, M.tx.clE, M.tx.nE_congestion, lnE, ?_⟩
    rw [ptE_congestion]
    generalize e3 : upd _ _ _ = H3
    obtain ⟨R3, F3⟩ := R2.setE (e' := { e with duplicates := e.duplicates + 1, threshold := halved n e, congestion := halved n e }) e3
    refine ⟨_, rfl, _, rfl, T, L, n, _, o, rfl, R3, fun H4 R4 F4 => ?_⟩
    exact ⟨_, rfl, _, rfl, T, L, n, _, o, r, rfl, R4, ht, fun H5 T5 L5 R5 N5 => hQ H5 T5 L5 R5 (Nx.trans ⟨rfl, rfl, rfl, rfl, ((F1.trans F2).trans F3).trans F4⟩ N5)⟩
  · rw [if_neg c] at ht
    cases ht
    exact hQ H1 T L R1 ⟨rfl, rfl, rfl, rfl, F1⟩
def sp_receive_confirmation (K : PySem.W.Frag) : Sp := fun vs H Q _ => ∃ T L n e o sa g pos r, vs = [.ref L.lk, .ref L.a, .ref sa, .int pos] ∧ Rep K H T L n e o ∧ SegAt K H T sa g ∧ recvConf n e g pos = some r ∧ ∀ H' T' L', Rep K H' T' L' r.1 r.2 o → Nx H T L H' T' L' → Q .non H'
theorem sc_receive_confirmation : FnScope ["link", "endpoint", "segment", "position", "is_same", "is_duplicate"] ["link", "endpoint", "segment", "position"] (defScope s_receive_confirmation) := ⟨rfl, rfl, rfl, by decide +kernel, rfl, by decide +kernel, by decide +kernel⟩
theorem ok_receive_confirmation (D : DefsOk K mg) (F_acknowledge : OkF P w K mg base "acknowledge" 2 ["link", "endpoint", "position"] (sp_acknowledge K)) (F_count_duplicate : OkF P w K mg base "count_duplicate" 6 ["link", "endpoint"] (sp_count_duplicate K)) (F_mark_parts : OkF P w K mg base "mark_parts" 2 ["endpoint", "segment"] (sp_mark_parts K)) (M_Segment_size : OkM P w K mg base (He.ga K "Segment") "size" 2 ["self"] (sp_Segment_size K)) : OkF P w K mg base "receive_confirmation" 7 ["link", "endpoint", "segment", "position"] (sp_receive_confirmation K) := by
  have M := D.m
  refine okF (st := s_receive_confirmation) (N := ["link", "endpoint", "segment", "position", "is_same", "is_duplicate"]) D.d_receive_confirmation D.g_receive_confirmation sc_receive_confirmation (fun vs H Q E h => ?_) (fun _ _ _ _ _ _ us hl => match us, hl with | [_, _, _, _], _ => rfl) (fun cdv A outer s H vs Q E hr h => ?_)
  · obtain ⟨T, L, n, e, o, sa, g, pos, r, rfl, R, G, ht, hQ⟩ := h
    rfl
  obtain ⟨T, L, n, e, o, sa, g, pos, r, rfl, R, G, ht, hQ⟩ := h
  refine ⟨_, (pss_cons (ps_set (i := 4) sc_receive_confirmation.nd rfl (Or.inl rfl) (pe_cmp (pc_eqI (pv 3) (pe_fld (pv 1) rfl))))
      (pss_cons (ps_set (i := 5) sc_receive_confirmation.nd rfl (Or.inl rfl) (pe_and (pv 4) (pe_and (pe_cmp (pc_eqI (c_meth0 M_Segment_size (hr.mono (by decide)) (pv 2)) pe_int)) (pe_one (pe_cmp (pc_eqI (pe_fld (pv 2) rfl) (pe_fld (pv 1) rfl)))))))
      (Evl.pss_cut (ps_set (i := 5) sc_receive_confirmation.nd rfl (Or.inl rfl) (pe_and (pv 5) (pe_one (pe_cmpR (op_neN (X := _) hr.units) (pe_fld (pv 1) rfl) (pe_lst pa_nil) (nomark _)))))
      (pss_cons (ps_fld (pv 1) (pe_fld (pv 2) rfl) rfl)
      (pss_cons (ps_expr (c_call F_mark_parts (hr.mono (by decide)) rfl (pa_cons (pv 1) (pa_cons (pv 2) pa_nil))))
      (Evl.pss_cut (ps_if (PW.pt (pw_and (pt_val (pv 4)) (pw_and (pt_cmp (pc_eqI (pe_fld (pv 2) rfl) pe_int)) (pw_and1 (pt_cmpR (op_neN (X := _) hr.units) (pe_fld (pv 1) rfl) (pe_lst pa_nil) (nomark _)))))) (pss_one (ps_fld (pe_ix ix_list (pe_fld (pv 1) rfl) pe_int (fun _ _ => rfl)) pe_int rfl)) pss_nil)
      (pss_one (ps_if (pt_not (pt_val (pv 4))) (pss_one (ps_expr (c_call F_acknowledge (hr.mono (by decide)) rfl (pa_cons (pv 0) (pa_cons (pv 1) (pa_cons (pv 3) pa_nil)))))) (pss_one (ps_if (pt_val (pv 5)) (pss_one (ps_expr (c_call F_count_duplicate (hr.mono (by decide)) rfl (pa_cons (pv 0) (pa_cons (pv 1) pa_nil))))) pss_nil)))))))))), ?_⟩
  unfold recvConf at ht
  obtain ⟨dl, hl⟩ := R.lk
  obtain ⟨da, ha⟩ := R.ea.obj
  have C := R.ea.c
  obtain ⟨dg, pl, bl, bs, hg, hgp, _, _, _, _, _, _, nn⟩ := id G
  refine ⟨_, rfl, _, rfl, _, _, _, _, _, rfl, ha, M.tx.clE, M.tx.nE_acknowledged, lkE_acknowledged, _, _, rfl, rfl, ?_⟩
  -- is_same and segment.size() == 0 and segment.window == endpoint.peer_window
  have pe : (L.y.ps.map fun q => V.ref q.1).isEmpty = e.parts.isEmpty := by
    rw [C.ps]
    cases L.y.ps <;> rfl
  have join : ∀ (Q' : VK), Q' (.bl (decide (pos = e.acknowledged) && (decide (g.size = 0) && decide (g.window = e.peerWindow)))) H →
      tAndV (tVar 4) (tAndV (tEqI (tMeth (He.ga K "Segment") "size" (sp_Segment_size K) [] E0 (tVar 2) tNil) (tC (.int 0))) (tEqI (tFld K (tVar 2) "window") (tFld K (tVar 1) "peer_window"))) [some (.ref L.lk), some (.ref L.a), some (.ref sa), some (.int pos), some (.bl (decide (pos = e.acknowledged))), none] H Q' := fun Q' q => by
    refine ⟨_, rfl, _, rfl, ?_⟩
    refine ifD (c := pos = e.acknowledged) (fun c1 => ?_) (fun c1 => ?_)
    · rw [decide_eq_true c1] at q
      refine ⟨_, rfl, sa, dg, _, rfl, hg, rfl, sa, dg, pl, bl, g, rfl, hg, hgp, nn, _, _, rfl, rfl, _, rfl, ?_⟩
      refine ifD (c := g.size = 0) (fun c2 => ?_) (fun c2 => ?_)
      · rw [decide_eq_true c2] at q
        exact ⟨_, rfl, _, _, _, _, _, rfl, hg, M.tx.clG, M.tx.nG_window, lkG_window, _, rfl, _, _, _, _, _, rfl, ha, M.tx.clE, M.tx.nE_peer_window, lkE_peer_window, _, _, rfl, rfl, q⟩
      · rw [decide_eq_false c2] at q
        exact q
    · rw [decide_eq_false c1] at q
      exact q
  refine join _ ?_
  refine ⟨fun σ H' => σ = [some (.ref L.lk), some (.ref L.a), some (.ref sa), some (.int pos), some (.bl (decide (pos = e.acknowledged))), some (.bl (isDup e g pos))] ∧ Rep K H' T L n e o ∧ Fr H T H' T, ?_, ?_⟩
  · have ed : isDup e g pos = ((decide (pos = e.acknowledged) && (decide (g.size = 0) && decide (g.window = e.peerWindow))) && !e.parts.isEmpty) := by
      unfold isDup
      cases decide (pos = e.acknowledged) <;> cases decide (g.size = 0) <;> cases decide (g.window = e.peerWindow) <;> rfl
    rw [ed]
    generalize (decide (pos = e.acknowledged) && (decide (g.size = 0) && decide (g.window = e.peerWindow))) = b
    refine ⟨_, rfl, _, rfl, ?_⟩
    refine ifB (fun c1 => ?_) (fun c1 => ?_)
    · refine ⟨_, rfl, _, _, _, _, _, rfl, ha, M.tx.clE, M.tx.nE_parts, lkE_parts, (by show 0 ≤ sizeLine; decide), fun w hw => ?_⟩
      generalize e1 : upd _ _ _ = H1
      have s1 : Same H H1 := by rw [← e1]; exact same_upd hw
      have hw1 : H1 w = some (.lst []) := by rw [← e1]; exact upd_same
      obtain ⟨R1, F1⟩ := R.sameF s1
      refine ⟨_, w, _, rfl, rfl, SqL.of R1.ea.c.pts, SqL.of hw1, ?_⟩
      rw [pe, c1]
      exact ⟨rfl, R1, F1⟩
    · rw [c1]
      exact ⟨rfl, R, Fr.refl H T⟩
  rintro σ H1 ⟨rfl, R1, F1⟩
  obtain ⟨da1, ha1⟩ := R1.ea.obj
  obtain ⟨dg1, pl1, bl1, bs1, hg1, _⟩ := G.fr F1
  refine ⟨_, rfl, _, _, _, _, _, rfl, hg1, M.tx.clG, M.tx.nG_window, lkG_window, _, rfl, _, _, _, _, rfl, ha1, M.tx.clE, M.tx.nE_peer_window, lnE, ?_⟩
  rw [ptE_peer_window]
  generalize e2 : upd _ _ _ = H2
  obtain ⟨R2, F2⟩ := R1.setE (e' := { e with peerWindow := g.window }) e2
  have F12 := F1.trans F2
  refine ⟨_, rfl, _, rfl, T, L, n, _, o, sa, g, rfl, R2, G.fr F12, fun H3 L3 R3 N3 => ?_⟩
  have N03 : Nx H T L H3 T L3 := Nx.trans ⟨rfl, rfl, rfl, rfl, F12⟩ N3
  have ea3 : L3.a = L.a := N3.2.1
  have el3 : L3.lk = L.lk := N3.1
  have F03 : Fr H T H3 T := N03.2.2.2.2
  generalize hm : markParts { e with peerWindow := g.window } g = em at R3 ht
  have ack : em.acknowledged = e.acknowledged := by rw [← hm]; rfl
  refine ⟨fun σ H' => σ = [some (.ref L.lk), some (.ref L.a), some (.ref sa), some (.int pos), some (.bl (decide (pos = e.acknowledged))), some (.bl (isDup e g pos))] ∧ ∃ L', Rep K H' T L' n (alive em g pos) o ∧ Nx H T L H' T L', ?_, ?_⟩
  · obtain ⟨dg3, pl3, bl3, bs3, hg3, _⟩ := G.fr F03
    have no : ¬ (pos = e.acknowledged ∧ g.window = 0) → alive em g pos = em := fun z => by
      unfold alive
      rw [ack, if_neg z]
    refine ⟨_, rfl, _, rfl, ?_⟩
    refine ifD (c := pos = e.acknowledged) (fun c1 => ?_) (fun c1 => ?_)
    · refine ⟨_, rfl, _, _, _, _, _, rfl, hg3, M.tx.clG, M.tx.nG_window, lkG_window, _, _, rfl, rfl, _, rfl, ?_⟩
      refine ifD (c := g.window = 0) (fun c2 => ?_) (fun c2 => ?_)
      · obtain ⟨da3, ha3⟩ := R3.ea.obj
        rw [ea3] at ha3
        refine ⟨_, rfl, _, _, _, _, _, rfl, ha3, M.tx.clE, M.tx.nE_parts, lkE_parts, (by show 0 ≤ sizeLine; decide), fun w hw => ?_⟩
        generalize e4 : upd _ _ _ = H4
        have s4 : Same H3 H4 := by rw [← e4]; exact same_upd hw
        have hw4 : H4 w = some (.lst []) := by rw [← e4]; exact upd_same
        obtain ⟨R4, F4⟩ := R3.sameF s4
        have C4 := R4.ea.c
        have N04 : Nx H T L H4 T L3 := Nx.trans N03 ⟨rfl, rfl, rfl, rfl, F4⟩
        obtain ⟨da4, ha4⟩ := R4.ea.obj
        rw [ea3] at ha4
        have ae : alive em g pos = { em with parts := aliveFirst em.parts } := by
          unfold alive
          rw [ack, if_pos ⟨c1, c2⟩]
        refine ⟨_, w, _, rfl, rfl, SqL.of C4.pts, SqL.of hw4, _, rfl, ?_⟩
        cases hps : L3.y.ps with
        | nil =>
          have en : em.parts = [] := by rw [C4.ps, hps]; rfl
          refine iteF ⟨rfl, L3, ?_, N04⟩
          rw [ae, en]
          have : ({ em with parts := aliveFirst [] } : MEnd) = em := by
            rw [show aliveFirst [] = em.parts from en.symm]
          rw [this]
          exact R4
        | cons q qs =>
          refine iteT ?_
          have q0 : L3.y.ps[0]? = some (q.1, q.2) := by rw [hps]; rfl
          obtain ⟨dp, plq, g1, g2, g3⟩ := (C4.part q (by rw [hps]; exact List.mem_cons_self)).obj
          have nq := (C4.part q (by rw [hps]; exact List.mem_cons_self)).nn
          have hpts := C4.pts
          rw [hps] at hpts
          refine ⟨_, rfl, _, _, _, _, _, rfl, ha4, M.tx.clE, M.tx.nE_parts, lkE_parts, L3.y.pts, _, 0, _, rfl, rfl, SqL.of hpts, at_of (j := 0) rfl rfl, _, _, _, _, rfl, g1, M.tx.clP, M.tx.nP_transmissions, lnP, ?_⟩
          rw [ptP_transmissions]
          generalize e5 : upd _ _ _ = H5
          obtain ⟨R5, F5⟩ := R4.mutPart (q' := { q.2 with transmissions := 1 }) q0 g2 g3 nq e5
          refine ⟨rfl, { L3 with y := { L3.y with ps := L3.y.ps.set 0 (q.1, { q.2 with transmissions := 1 }) } }, ?_, Nx.trans N04 ⟨rfl, rfl, rfl, rfl, F5⟩⟩
          rw [ae]
          have en : em.parts = q.2 :: qs.map (·.2) := by rw [C4.ps, hps]; rfl
          have : aliveFirst em.parts = em.parts.set 0 { q.2 with transmissions := 1 } := by rw [en]; rfl
          rw [this]
          exact R5
      · refine iteF ⟨rfl, L3, ?_, N03⟩
        rw [no fun z => c2 z.2]
        exact R3
    · refine iteF ⟨rfl, L3, ?_, N03⟩
      rw [no fun z => c1 z.1]
      exact R3
  rintro σ H4 ⟨rfl, L4, R4, N4⟩
  have ea4 : L4.a = L.a := N4.2.1
  have el4 : L4.lk = L.lk := N4.1
  refine ⟨_, rfl, _, rfl, ?_⟩
  refine ifN (c := pos = e.acknowledged) (fun c1 => ?_) (fun c1 => ?_)
  · rw [if_neg c1] at ht
    obtain ⟨e2, g1, g2⟩ := bind_some ht
    cases g2
    exact ⟨_, rfl, _, rfl, _, rfl, T, L4, n, _, o, pos, e2, by rw [el4, ea4]; rfl, R4, g1, fun H5 T5 L5 R5 N5 => hQ H5 T5 L5 R5 (Nx.trans N4 N5)⟩
  · rw [if_pos c1] at ht
    refine ⟨_, rfl, _, rfl, ?_⟩
    refine ifB (fun c2 => ?_) (fun c2 => ?_)
    · rw [if_pos c2] at ht
      exact ⟨_, rfl, _, rfl, T, L4, n, _, o, r, by rw [el4, ea4]; rfl, R4, ht, fun H5 T5 L5 R5 N5 => hQ H5 T5 L5 R5 (Nx.trans N4 N5)⟩
    · rw [if_neg (by rw [c2]; simp)] at ht
      cases ht
      exact hQ H4 T L4 R4 N4
def sp_receive_reset (K : PySem.W.Frag) : Sp := fun vs H Q _ => ∃ T L n e o sa g, vs = [.ref L.lk, .ref L.a, .ref sa] ∧ Rep K H T L n e o ∧ SegAt K H T sa g ∧ ∀ H' T' L', Rep K H' T' L' n (recvReset n e g) o → Nx H T L H' T' L' → Q .non H'
theorem eqV_int {x y : Int} : eqV (.int x) (.int y) = decide (x = y) := by
  show (x == y) = _
  exact Bool.beq_eq_decide_eq x y
theorem in2 {s a b : Int} : inV (.int s) [.int a, .int b] = decide (s = a ∨ s = b) := by
  unfold inV
  rw [List.any_cons, List.any_cons, List.any_nil, eqV_int, eqV_int, Bool.or_false, ← Bool.decide_or]
  exact decide_eq_decide.mpr ⟨fun h => h.imp Eq.symm Eq.symm, fun h => h.imp Eq.symm Eq.symm⟩
theorem sc_receive_reset : FnScope ["link", "endpoint", "segment", "position"] ["link", "endpoint", "segment"] (defScope s_receive_reset) := ⟨rfl, rfl, rfl, by decide +kernel, rfl, by decide +kernel, by decide +kernel⟩
theorem ok_receive_reset (D : DefsOk K mg) (F_position_of : OkF P w K mg base "position_of" 1 ["initial", "sequence", "reference"] (sp_position_of K)) (M_Endpoint_fail : OkM P w K mg base (He.ga K "Endpoint") "fail" 1 ["self"] (sp_Endpoint_fail K)) (M_Link_window_of : OkM P w K mg base (He.ga K "Link") "window_of" 1 ["self", "endpoint"] (sp_Link_window_of K)) : OkF P w K mg base "receive_reset" 2 ["link", "endpoint", "segment"] (sp_receive_reset K) := by
  have M := D.m
  refine okF (st := s_receive_reset) (N := ["link", "endpoint", "segment", "position"]) D.d_receive_reset D.g_receive_reset sc_receive_reset (fun vs H Q E h => ?_) (fun _ _ _ _ _ _ us hl => match us, hl with | [_, _, _], _ => rfl) (fun cdv A outer s H vs Q E hr h => ?_)
  · obtain ⟨T, L, n, e, o, sa, g, rfl, R, G, hQ⟩ := h
    rfl
  obtain ⟨T, L, n, e, o, sa, g, rfl, R, G, hQ⟩ := h
  refine ⟨_, (pss_one (ps_if (pt_cmpR op_in_seq (pe_fld (pv 1) rfl) (pe_tup (pa_cons (pe_kon M.k_SYN_SENT) (pa_cons (pe_kon M.k_SYN_RECEIVED) pa_nil))) (by with_unfolding_all rfl)) (pss_one (ps_expr (c_meth0 M_Endpoint_fail (hr.mono (by decide)) (pv 1)))) (pss_one (ps_if (pt_cmp (pc_eqI (pe_fld (pv 1) rfl) (pe_kon M.k_ESTABLISHED))) (pss_cons (ps_set (i := 3) sc_receive_reset.nd rfl (Or.inl rfl) (c_call F_position_of (hr.mono (by decide)) rfl (pa_cons (pe_fld (pv 1) rfl) (pa_cons (pe_fld (pv 2) rfl) (pa_cons (pe_fld (pv 1) rfl) pa_nil)))))
      (pss_one (ps_if (pt_chain op_le op_lt (pe_fld (pv 1) rfl) (pv 3) (pe_op op_add (pe_fld (pv 1) rfl) (pe_callB (call_max2 rfl) (by rfl) M.b_max bt_max (pa_cons pe_int (pa_cons (c_meth M_Link_window_of (hr.mono (by decide)) (pv 0) (pa_cons (pv 1) pa_nil)) pa_nil))))) (pss_one (ps_expr (c_meth0 M_Endpoint_fail (hr.mono (by decide)) (pv 1)))) pss_nil))) pss_nil)))), ?_⟩
  unfold recvReset at hQ
  obtain ⟨dl, hl⟩ := R.lk
  obtain ⟨da, ha⟩ := R.ea.obj
  refine ⟨_, rfl, _, _, _, _, _, rfl, ha, M.tx.clE, M.tx.nE_state, lkE_state, (by show 2 ≤ sizeLine; decide), fun w hw => ?_⟩
  generalize e1 : upd _ _ _ = H1
  have s1 : Same H H1 := by rw [← e1]; exact same_upd hw
  have hw1 : H1 w = some (.tup [.int 2, .int 3]) := by rw [← e1]; exact upd_same
  obtain ⟨R1, F1⟩ := R.sameF s1
  have ha1 := s1 _ _ ha
  have hl1 := s1 _ _ hl
  have N1 : Nx H T L H1 T L := ⟨rfl, rfl, rfl, rfl, F1⟩
  obtain ⟨dg, pl, bl, bs, hg, _⟩ := G.fr F1
  refine ⟨w, _, rfl, .inr (SqT.of hw1), rfl, rfl, _, rfl, ?_⟩
  rw [show (if false = true then !inV (.int e.state) [.int 2, .int 3] else inV (.int e.state) [.int 2, .int 3]) = decide (e.state = 2 ∨ e.state = 3) from in2]
  refine ifD (c := e.state = 2 ∨ e.state = 3) (fun c => ?_) (fun c => ?_)
  · rw [if_pos c] at hQ
    exact ⟨_, rfl, L.a, da, _, rfl, ha1, rfl, T, L, n, e, o, rfl, R1, fun H2 T2 L2 R2 N2 => hQ H2 T2 L2 R2 (Nx.trans N1 N2)⟩
  · rw [if_neg c] at hQ
    refine ⟨_, rfl, _, _, _, _, _, rfl, ha1, M.tx.clE, M.tx.nE_state, lkE_state, _, _, rfl, rfl, _, rfl, ?_⟩
    refine ifD (c := e.state = 4) (fun c => ?_) (fun c => ?_)
    · rw [if_pos c] at hQ
      refine ⟨_, rfl, _, _, _, _, _, rfl, ha1, M.tx.clE, M.tx.nE_peer_initial, lkE_peer_initial, _, rfl, _, _, _, _, _, rfl, hg, M.tx.clG, M.tx.nG_sequence, lkG_sequence, _, rfl, _, _, _, _, _, rfl, ha1, M.tx.clE, M.tx.nE_expected, lkE_expected, e.peerInitial, g.seq, e.expected, rfl, ?_⟩
      refine ⟨_, rfl, _, _, _, _, _, rfl, ha1, M.tx.clE, M.tx.nE_expected, lkE_expected, _, rfl, _, _, rfl, rfl, _, rfl, ?_⟩
      refine ifD (c := e.expected ≤ posOf e.peerInitial g.seq e.expected) (fun c1 => ?_) (fun c1 => ?_)
      · refine ⟨_, rfl, _, _, _, _, _, rfl, ha1, M.tx.clE, M.tx.nE_expected, lkE_expected, _, rfl, L.lk, dl, _, rfl, hl1, rfl, _, rfl, T, L, n, e, o, rfl, R1, _, _, rfl, _, _, rfl, rfl, _, _, rfl, rfl, _, rfl, ?_⟩
        refine ifD (c := posOf e.peerInitial g.seq e.expected < e.expected + pmax 1 (win n e)) (fun c2 => ?_) (fun c2 => ?_)
        · rw [if_pos ⟨c1, c2⟩] at hQ
          exact ⟨_, rfl, L.a, da, _, rfl, ha1, rfl, T, L, n, e, o, rfl, R1, fun H2 T2 L2 R2 N2 => hQ H2 T2 L2 R2 (Nx.trans N1 N2)⟩
        · rw [if_neg (fun z => c2 z.2)] at hQ
          exact hQ H1 T L R1 N1
      · rw [if_neg (fun z => c1 z.1)] at hQ
        exact ⟨_, rfl, iteF (hQ H1 T L R1 N1)⟩
    · rw [if_neg c] at hQ
      exact hQ H1 T L R1 N1
def sp_receive_listening (K : PySem.W.Frag) : Sp := fun vs H Q _ => ∃ T L n e o sa g r, vs = [.ref L.lk, .ref L.a, .ref sa] ∧ Rep K H T L n e o ∧ SegAt K H T sa g ∧ recvListening n e g = some r ∧ ∀ H' T' L', Rep K H' T' L' r.1 r.2 o → Nx H T L H' T' L' → Q .non H'
theorem sc_receive_listening : FnScope ["link", "endpoint", "segment"] ["link", "endpoint", "segment"] (defScope s_receive_listening) := ⟨rfl, rfl, rfl, by decide +kernel, rfl, by decide +kernel, by decide +kernel⟩
theorem ok_receive_listening (D : DefsOk K mg) (F_send_part : OkF P w K mg base "send_part" 5 ["link", "endpoint", "flag", "payload"] (sp_send_part K)) (F_take_syn : OkF P w K mg base "take_syn" 1 ["endpoint", "segment"] (sp_take_syn K)) (M_Segment_has_flag : OkM P w K mg base (He.ga K "Segment") "has_flag" 1 ["self", "flag"] (sp_Segment_has_flag K)) : OkF P w K mg base "receive_listening" 6 ["link", "endpoint", "segment"] (sp_receive_listening K) := by
  have M := D.m
  refine okF (st := s_receive_listening) (N := ["link", "endpoint", "segment"]) D.d_receive_listening D.g_receive_listening sc_receive_listening (fun vs H Q E h => ?_) (fun _ _ _ _ _ _ us hl => match us, hl with | [_, _, _], _ => rfl) (fun cdv A outer s H vs Q E hr h => ?_)
  · obtain ⟨T, L, n, e, o, sa, g, r, rfl, R, G, ht, hQ⟩ := h
    rfl
  obtain ⟨T, L, n, e, o, sa, g, r, rfl, R, G, ht, hQ⟩ := h
  refine ⟨_, (pss_one (ps_if (PW.pt (pw_and (pt_val (c_meth M_Segment_has_flag (hr.mono (by decide)) (pv 2) (pa_cons (pe_kon M.k_SYN) pa_nil))) (pw_and1 (pt_not (pt_val (c_meth M_Segment_has_flag (hr.mono (by decide)) (pv 2) (pa_cons (pe_kon M.k_ACKNOWLEDGEMENT) pa_nil))))))) (pss_cons (ps_expr (c_call F_take_syn (hr.mono (by decide)) rfl (pa_cons (pv 1) (pa_cons (pv 2) pa_nil))))
      (pss_cons (ps_fld (pv 1) (pe_kon M.k_SYN_RECEIVED) rfl)
      (pss_one (ps_expr (c_call F_send_part (hr.mono (by decide)) rfl (pa_cons (pv 0) (pa_cons (pv 1) (pa_cons (pe_kon M.k_SYN) (pa_cons (pe_lst pa_nil) pa_nil))))))))) pss_nil)), ?_⟩
  unfold recvListening at ht
  obtain ⟨dg, pl, bl, bs, hg, hgp, _, _, _, _, _, _, nn⟩ := id G
  have no : ¬ (g.has 1 = true ∧ g.has 8 = false) → Q .non H := fun z => by
    rw [if_neg z] at ht
    cases ht
    exact hQ H T L R (Nx.refl H T L)
  refine ⟨_, rfl, sa, dg, _, rfl, hg, rfl, sa, dg, pl, bl, g, 1, rfl, hg, nn, by decide, _, rfl, ?_⟩
  refine ifB (fun c1 => ?_) (fun c1 => ?_)
  · refine ⟨_, rfl, sa, dg, _, rfl, hg, rfl, sa, dg, pl, bl, g, 8, rfl, hg, nn, by decide, _, rfl, ?_⟩
    refine ifNB (fun c2 => ?_) (fun c2 => ?_)
    · rw [if_pos ⟨c1, c2⟩] at ht
      refine ⟨_, rfl, _, rfl, T, L, n, e, o, sa, g, rfl, R, G, fun H1 R1 F1 => ?_⟩
      obtain ⟨da1, ha1⟩ := R1.ea.obj
      refine ⟨_, rfl, _, _, _, _, rfl, ha1, M.tx.clE, M.tx.nE_state, lnE, ?_⟩
      rw [ptE_state]
      generalize e2 : upd _ _ _ = H2
      obtain ⟨R2, F2⟩ := R1.setE (e' := { takeSyn e g with state := 3 }) e2
      refine ⟨_, rfl, _, rfl, (by show 0 ≤ sizeLine; decide), fun p hp => ?_⟩
      generalize e3 : upd _ _ _ = H3
      obtain ⟨R3, F3, hp3, tp3, _⟩ := R2.alloc hp .frz e3
      exact ⟨_, L, n, _, o, 1, p, [], r, rfl, R3, hp3, tp3, by decide, ht, fun H4 T4 L4 R4 N4 => hQ H4 T4 L4 R4 (Nx.trans ⟨rfl, rfl, rfl, rfl, (F1.trans F2).trans F3⟩ N4)⟩
    · exact no fun z => by rw [c2] at z; cases z.2
  · exact iteF (no fun z => by rw [c1] at z; cases z.1)
def sp_receive_syn_sent (K : PySem.W.Frag) : Sp := fun vs H Q _ => ∃ T L n e o sa g r, vs = [.ref L.lk, .ref L.a, .ref sa] ∧ Rep K H T L n e o ∧ SegAt K H T sa g ∧ recvSynSent n e g = some r ∧ ∀ H' T' L', Rep K H' T' L' r.1 r.2 o → Nx H T L H' T' L' → Q .non H'
theorem sc_receive_syn_sent : FnScope ["link", "endpoint", "segment"] ["link", "endpoint", "segment"] (defScope s_receive_syn_sent) := ⟨rfl, rfl, rfl, by decide +kernel, rfl, by decide +kernel, by decide +kernel⟩
theorem ok_receive_syn_sent (D : DefsOk K mg) (F_acknowledge : OkF P w K mg base "acknowledge" 2 ["link", "endpoint", "position"] (sp_acknowledge K)) (F_confirms_syn : OkF P w K mg base "confirms_syn" 2 ["endpoint", "segment"] (sp_confirms_syn K)) (F_output : OkF P w K mg base "output" 7 ["link", "endpoint"] (sp_output K)) (F_send_acknowledgement : OkF P w K mg base "send_acknowledgement" 4 ["link", "endpoint"] (sp_send_acknowledgement K)) (F_take_syn : OkF P w K mg base "take_syn" 1 ["endpoint", "segment"] (sp_take_syn K)) (M_Segment_has_flag : OkM P w K mg base (He.ga K "Segment") "has_flag" 1 ["self", "flag"] (sp_Segment_has_flag K)) : OkF P w K mg base "receive_syn_sent" 8 ["link", "endpoint", "segment"] (sp_receive_syn_sent K) := by
  have M := D.m
  refine okF (st := s_receive_syn_sent) (N := ["link", "endpoint", "segment"]) D.d_receive_syn_sent D.g_receive_syn_sent sc_receive_syn_sent (fun vs H Q E h => ?_) (fun _ _ _ _ _ _ us hl => match us, hl with | [_, _, _], _ => rfl) (fun cdv A outer s H vs Q E hr h => ?_)
  · obtain ⟨T, L, n, e, o, sa, g, r, rfl, R, G, ht, hQ⟩ := h
    rfl
  obtain ⟨T, L, n, e, o, sa, g, r, rfl, R, G, ht, hQ⟩ := h
  refine ⟨_, (pss_one (ps_if (PW.pt (pw_and (pt_val (c_meth M_Segment_has_flag (hr.mono (by decide)) (pv 2) (pa_cons (pe_kon M.k_SYN) pa_nil))) (pw_and1 (pt_val (c_call F_confirms_syn (hr.mono (by decide)) rfl (pa_cons (pv 1) (pa_cons (pv 2) pa_nil))))))) (pss_cons (ps_fld (pv 1) (pe_kon M.k_ESTABLISHED) rfl)
      (pss_cons (ps_expr (c_call F_take_syn (hr.mono (by decide)) rfl (pa_cons (pv 1) (pa_cons (pv 2) pa_nil))))
      (pss_cons (ps_expr (c_call F_acknowledge (hr.mono (by decide)) rfl (pa_cons (pv 0) (pa_cons (pv 1) (pa_cons pe_int pa_nil)))))
      (pss_cons (ps_expr (c_call F_send_acknowledgement (hr.mono (by decide)) rfl (pa_cons (pv 0) (pa_cons (pv 1) pa_nil))))
      (pss_one (ps_expr (c_call F_output (hr.mono (by decide)) rfl (pa_cons (pv 0) (pa_cons (pv 1) pa_nil))))))))) pss_nil)), ?_⟩
  unfold recvSynSent at ht
  obtain ⟨da, ha⟩ := R.ea.obj
  obtain ⟨dg, pl, bl, bs, hg, hgp, _, _, _, _, _, _, nn⟩ := id G
  have no : ¬ (g.has 1 = true ∧ confirmsSyn e g = true) → Q .non H := fun z => by
    rw [if_neg z] at ht
    cases ht
    exact hQ H T L R (Nx.refl H T L)
  refine ⟨_, rfl, sa, dg, _, rfl, hg, rfl, sa, dg, pl, bl, g, 1, rfl, hg, nn, by decide, _, rfl, ?_⟩
  refine ifB (fun c1 => ?_) (fun c1 => ?_)
  · refine ⟨_, rfl, _, rfl, T, L, n, e, o, sa, g, rfl, R, G, _, rfl, ?_⟩
    refine ifB (fun c2 => ?_) (fun c2 => ?_)
    · rw [if_pos ⟨c1, c2⟩] at ht
      obtain ⟨e1, g1, h1⟩ := bind_some ht
      obtain ⟨n1, g2, g3⟩ := bind_some h1
      refine ⟨_, rfl, _, _, _, _, rfl, ha, M.tx.clE, M.tx.nE_state, lnE, ?_⟩
      rw [ptE_state]
      generalize eq1 : upd _ _ _ = H1
      obtain ⟨R1, F1⟩ := R.setE (e' := { e with state := 4 }) eq1
      refine ⟨_, rfl, _, rfl, T, L, n, _, o, sa, g, rfl, R1, G.fr F1, fun H2 R2 F2 => ?_⟩
      refine ⟨_, rfl, _, rfl, T, L, n, _, o, 1, e1, rfl, R2, g1, fun H3 T3 L3 R3 N3 => ?_⟩
      have ea3 : L3.a = L.a := N3.2.1
      have el3 : L3.lk = L.lk := N3.1
      have N03 : Nx H T L H3 T3 L3 := Nx.trans ⟨rfl, rfl, rfl, rfl, F1.trans F2⟩ N3
      refine ⟨_, rfl, _, rfl, T3, L3, n, e1, o, n1, by rw [el3, ea3]; rfl, R3, g2, fun H4 T4 L4 R4 N4 _ => ?_⟩
      have N04 : Nx H T L H4 T4 L4 := Nx.trans N03 N4
      have ea4 : L4.a = L.a := N04.2.1
      have el4 : L4.lk = L.lk := N04.1
      exact ⟨_, rfl, _, rfl, T4, L4, n1, e1, o, r, by rw [el4, ea4]; rfl, R4, g3, fun H5 T5 L5 R5 N5 => hQ H5 T5 L5 R5 (Nx.trans N04 N5)⟩
    · exact no fun z => by rw [c2] at z; cases z.2
  · exact iteF (no fun z => by rw [c1] at z; cases z.1)
def sp_receive_established (K : PySem.W.Frag) : Sp := fun vs H Q _ => ∃ T L n e o sa g r, vs = [.ref L.lk, .ref L.a, .ref sa] ∧ Rep K H T L n e o ∧ SegAt K H T sa g ∧ recvEstablished n e g = some r ∧ ∀ H' T' L', Rep K H' T' L' r.1 r.2 o → Nx H T L H' T' L' → Q .non H'
theorem sc_receive_established : FnScope ["link", "endpoint", "segment", "position"] ["link", "endpoint", "segment"] (defScope s_receive_established) := ⟨rfl, rfl, rfl, by decide +kernel, rfl, by decide +kernel, by decide +kernel⟩
theorem ok_receive_established (D : DefsOk K mg) (F_accept : OkF P w K mg base "accept" 2 ["link", "endpoint", "segment"] (sp_accept K)) (F_output : OkF P w K mg base "output" 7 ["link", "endpoint"] (sp_output K)) (F_position_of : OkF P w K mg base "position_of" 1 ["initial", "sequence", "reference"] (sp_position_of K)) (F_receive_confirmation : OkF P w K mg base "receive_confirmation" 7 ["link", "endpoint", "segment", "position"] (sp_receive_confirmation K)) (F_send_acknowledgement : OkF P w K mg base "send_acknowledgement" 4 ["link", "endpoint"] (sp_send_acknowledgement K)) (M_Segment_has_flag : OkM P w K mg base (He.ga K "Segment") "has_flag" 1 ["self", "flag"] (sp_Segment_has_flag K)) (M_Segment_size : OkM P w K mg base (He.ga K "Segment") "size" 2 ["self"] (sp_Segment_size K)) : OkF P w K mg base "receive_established" 8 ["link", "endpoint", "segment"] (sp_receive_established K) := by
  have M := D.m
  refine okF (st := s_receive_established) (N := ["link", "endpoint", "segment", "position"]) D.d_receive_established D.g_receive_established sc_receive_established (fun vs H Q E h => ?_) (fun _ _ _ _ _ _ us hl => match us, hl with | [_, _, _], _ => rfl) (fun cdv A outer s H vs Q E hr h => ?_)
  · obtain ⟨T, L, n, e, o, sa, g, r, rfl, R, G, ht, hQ⟩ := h
    rfl
  obtain ⟨T, L, n, e, o, sa, g, r, rfl, R, G, ht, hQ⟩ := h
  refine ⟨_, (pss_cons (ps_if (pt_not (pt_val (c_meth M_Segment_has_flag (hr.mono (by decide)) (pv 2) (pa_cons (pe_kon M.k_ACKNOWLEDGEMENT) pa_nil)))) (pss_one ps_retN) pss_nil)
      (pss_cons (ps_set (i := 3) sc_receive_established.nd rfl (Or.inl rfl) (c_call F_position_of (hr.mono (by decide)) rfl (pa_cons (pe_fld (pv 1) rfl) (pa_cons (pe_fld (pv 2) rfl) (pa_cons (pe_fld (pv 1) rfl) pa_nil)))))
      (pss_cons (ps_if (pt_cmp (pc_gt (pv 3) (pe_fld (pv 1) rfl))) (pss_cons (ps_expr (c_call F_send_acknowledgement (hr.mono (by decide)) rfl (pa_cons (pv 0) (pa_cons (pv 1) pa_nil))))
      (pss_one ps_retN)) pss_nil)
      (Evl.pss_cut (ps_if (pt_cmp (pc_ge (pv 3) (pe_fld (pv 1) rfl))) (pss_one (ps_expr (c_call F_receive_confirmation (hr.mono (by decide)) rfl (pa_cons (pv 0) (pa_cons (pv 1) (pa_cons (pv 2) (pa_cons (pv 3) pa_nil))))))) pss_nil)
      (pss_cons (ps_if (pt_cmp (pc_gt (c_meth0 M_Segment_size (hr.mono (by decide)) (pv 2)) pe_int)) (pss_cons (ps_expr (c_call F_accept (hr.mono (by decide)) rfl (pa_cons (pv 0) (pa_cons (pv 1) (pa_cons (pv 2) pa_nil)))))
      (pss_one (ps_expr (c_call F_send_acknowledgement (hr.mono (by decide)) rfl (pa_cons (pv 0) (pa_cons (pv 1) pa_nil)))))) pss_nil)
      (pss_one (ps_expr (c_call F_output (hr.mono (by decide)) rfl (pa_cons (pv 0) (pa_cons (pv 1) pa_nil)))))))))), ?_⟩
  unfold recvEstablished at ht
  obtain ⟨da, ha⟩ := R.ea.obj
  obtain ⟨dg, pl, bl, bs, hg, hgp, _, _, _, _, _, _, nn⟩ := id G
  refine ⟨_, rfl, sa, dg, _, rfl, hg, rfl, sa, dg, pl, bl, g, 8, rfl, hg, nn, by decide, _, rfl, ?_⟩
  refine ifNB (fun c1 => ?_) (fun c1 => ?_)
  · rw [if_pos c1] at ht
    cases ht
    exact hQ H T L R (Nx.refl H T L)
  rw [if_neg (by rw [c1]; simp)] at ht
  refine ⟨_, rfl, _, _, _, _, _, rfl, ha, M.tx.clE, M.tx.nE_initial, lkE_initial, _, rfl, _, _, _, _, _, rfl, hg, M.tx.clG, M.tx.nG_confirmed, lkG_confirmed, _, rfl, _, _, _, _, _, rfl, ha, M.tx.clE, M.tx.nE_acknowledged, lkE_acknowledged, e.initial, g.confirmed, e.acknowledged, rfl, ?_⟩
  refine ⟨_, rfl, _, rfl, _, _, _, _, _, rfl, ha, M.tx.clE, M.tx.nE_next_position, lkE_next_position, _, _, rfl, rfl, _, rfl, ?_⟩
  generalize posOf e.initial g.confirmed e.acknowledged = pos at ht ⊢
  refine ifD (c := e.next < pos) (fun c2 => ?_) (fun c2 => ?_)
  · rw [if_pos (show pos > e.next from c2)] at ht
    obtain ⟨n1, g1, g2⟩ := bind_some ht
    cases g2
    exact ⟨_, rfl, _, rfl, T, L, n, e, o, n1, rfl, R, g1, fun H1 T1 L1 R1 N1 _ => hQ H1 T1 L1 R1 N1⟩
  rw [if_neg (show ¬ pos > e.next from c2)] at ht
  refine ⟨fun σ H' => (∃ v3, σ = [some (.ref L.lk), some (.ref L.a), some (.ref sa), v3]) ∧ ∃ T' L' n' e', Rep K H' T' L' n' e' o ∧ Nx H T L H' T' L' ∧ recvBody n' e' g = some r, ?_, ?_⟩
  · refine ⟨_, rfl, _, rfl, _, _, _, _, _, rfl, ha, M.tx.clE, M.tx.nE_acknowledged, lkE_acknowledged, _, _, rfl, rfl, _, rfl, ?_⟩
    refine ifD (c := e.acknowledged ≤ pos) (fun c3 => ?_) (fun c3 => ?_)
    · rw [if_pos (show pos ≥ e.acknowledged from c3)] at ht
      obtain ⟨r1, g1, g2⟩ := bind_some ht
      exact ⟨_, rfl, _, rfl, _, rfl, _, rfl, T, L, n, e, o, sa, g, pos, r1, rfl, R, G, g1, fun H1 T1 L1 R1 N1 => ⟨⟨_, rfl⟩, T1, L1, _, _, R1, N1, g2⟩⟩
    · rw [if_neg (show ¬ pos ≥ e.acknowledged from c3)] at ht
      exact ⟨⟨_, rfl⟩, T, L, n, e, R, Nx.refl H T L, ht⟩
  rintro σ H1 ⟨⟨v3, rfl⟩, T1, L1, n1, e1, R1, N1, hb⟩
  unfold recvBody at hb
  have ea1 : L1.a = L.a := N1.2.1
  have el1 : L1.lk = L.lk := N1.1
  have G1 := G.fr N1.2.2.2.2
  obtain ⟨dg1, pl1, bl1, bs1, hg1, hgp1, _, _, _, _, _, _, nn1⟩ := id G1
  refine ⟨_, rfl, sa, dg1, _, rfl, hg1, rfl, sa, dg1, pl1, bl1, g, rfl, hg1, hgp1, nn1, _, _, rfl, rfl, _, rfl, ?_⟩
  refine ifD (c := 0 < g.size) (fun c4 => ?_) (fun c4 => ?_)
  · rw [if_pos (show g.size > 0 from c4)] at hb
    obtain ⟨e2, g1, h2⟩ := bind_some hb
    obtain ⟨n2, g2, g3⟩ := bind_some h2
    refine ⟨_, rfl, _, rfl, _, rfl, T1, L1, n1, e1, o, sa, g, e2, by rw [el1, ea1]; rfl, R1, G1, g1, fun H2 R2 F2 => ?_⟩
    have N2 : Nx H T L H2 T1 L1 := Nx.trans N1 ⟨rfl, rfl, rfl, rfl, F2⟩
    refine ⟨_, rfl, _, rfl, T1, L1, n1, e2, o, n2, by rw [el1, ea1]; rfl, R2, g2, fun H3 T3 L3 R3 N3 _ => ?_⟩
    have N03 := Nx.trans N2 N3
    have ea3 : L3.a = L.a := N03.2.1
    have el3 : L3.lk = L.lk := N03.1
    exact ⟨_, rfl, _, rfl, T3, L3, n2, e2, o, r, by rw [el3, ea3]; rfl, R3, g3, fun H4 T4 L4 R4 N4 => hQ H4 T4 L4 R4 (Nx.trans N03 N4)⟩
  · rw [if_neg (show ¬ g.size > 0 from c4)] at hb
    exact ⟨_, rfl, _, rfl, T1, L1, n1, e1, o, r, by rw [el1, ea1]; rfl, R1, hb, fun H4 T4 L4 R4 N4 => hQ H4 T4 L4 R4 (Nx.trans N1 N4)⟩
def sp_receive_syn_received (K : PySem.W.Frag) : Sp := fun vs H Q _ => ∃ T L n e o sa g r, vs = [.ref L.lk, .ref L.a, .ref sa] ∧ Rep K H T L n e o ∧ SegAt K H T sa g ∧ recvSynReceived n e g = some r ∧ ∀ H' T' L', Rep K H' T' L' r.1 r.2 o → Nx H T L H' T' L' → Q .non H'
theorem sc_receive_syn_received : FnScope ["link", "endpoint", "segment"] ["link", "endpoint", "segment"] (defScope s_receive_syn_received) := ⟨rfl, rfl, rfl, by decide +kernel, rfl, by decide +kernel, by decide +kernel⟩
theorem ok_receive_syn_received (D : DefsOk K mg) (F_confirms_syn : OkF P w K mg base "confirms_syn" 2 ["endpoint", "segment"] (sp_confirms_syn K)) (F_receive_established : OkF P w K mg base "receive_established" 8 ["link", "endpoint", "segment"] (sp_receive_established K)) (F_transmit_part : OkF P w K mg base "transmit_part" 4 ["link", "endpoint", "part"] (sp_transmit_part K)) (M_Segment_has_flag : OkM P w K mg base (He.ga K "Segment") "has_flag" 1 ["self", "flag"] (sp_Segment_has_flag K)) : OkF P w K mg base "receive_syn_received" 9 ["link", "endpoint", "segment"] (sp_receive_syn_received K) := by
  have M := D.m
  refine okF (st := s_receive_syn_received) (N := ["link", "endpoint", "segment"]) D.d_receive_syn_received D.g_receive_syn_received sc_receive_syn_received (fun vs H Q E h => ?_) (fun _ _ _ _ _ _ us hl => match us, hl with | [_, _, _], _ => rfl) (fun cdv A outer s H vs Q E hr h => ?_)
  · obtain ⟨T, L, n, e, o, sa, g, r, rfl, R, G, ht, hQ⟩ := h
    rfl
  obtain ⟨T, L, n, e, o, sa, g, r, rfl, R, G, ht, hQ⟩ := h
  refine ⟨_, (pss_one (ps_if (pt_val (c_meth M_Segment_has_flag (hr.mono (by decide)) (pv 2) (pa_cons (pe_kon M.k_SYN) pa_nil))) (pss_one (ps_if (pt_not (pt_val (c_meth M_Segment_has_flag (hr.mono (by decide)) (pv 2) (pa_cons (pe_kon M.k_ACKNOWLEDGEMENT) pa_nil)))) (pss_one (ps_expr (c_call F_transmit_part (hr.mono (by decide)) rfl (pa_cons (pv 0) (pa_cons (pv 1) (pa_cons (pe_ix ix_list (pe_fld (pv 1) rfl) pe_int (fun _ _ => rfl)) pa_nil)))))) pss_nil)) (pss_one (ps_if (pt_val (c_call F_confirms_syn (hr.mono (by decide)) rfl (pa_cons (pv 1) (pa_cons (pv 2) pa_nil)))) (pss_cons (ps_fld (pv 1) (pe_kon M.k_ESTABLISHED) rfl)
      (pss_one (ps_expr (c_call F_receive_established (hr.mono (by decide)) rfl (pa_cons (pv 0) (pa_cons (pv 1) (pa_cons (pv 2) pa_nil))))))) pss_nil)))), ?_⟩
  unfold recvSynReceived at ht
  obtain ⟨da, ha⟩ := R.ea.obj
  have C := R.ea.c
  obtain ⟨dg, pl, bl, bs, hg, hgp, _, _, _, _, _, _, nn⟩ := id G
  refine ⟨_, rfl, sa, dg, _, rfl, hg, rfl, sa, dg, pl, bl, g, 1, rfl, hg, nn, by decide, _, rfl, ?_⟩
  refine ifB (fun c1 => ?_) (fun c1 => ?_)
  · rw [if_pos c1] at ht
    refine ⟨_, rfl, sa, dg, _, rfl, hg, rfl, sa, dg, pl, bl, g, 8, rfl, hg, nn, by decide, _, rfl, ?_⟩
    refine ifNB (fun c2 => ?_) (fun c2 => ?_)
    · rw [if_pos c2] at ht
      cases hps : L.y.ps with
      | nil =>
        rw [C.ps, hps] at ht
        cases ht
      | cons q qs =>
        rw [C.ps, hps] at ht
        obtain ⟨n1, g1, g2⟩ := bind_some (show (transmitPart n e q.2).bind (fun n1 => some (n1, e)) = some r from ht)
        cases g2
        have hpts := C.pts
        rw [hps] at hpts
        have Pq := C.part q (by rw [hps]; exact List.mem_cons_self)
        obtain ⟨dp, plq, p1, p2, p3⟩ := Pq.obj
        exact ⟨_, rfl, _, rfl, _, rfl, _, _, _, _, _, rfl, ha, M.tx.clE, M.tx.nE_parts, lkE_parts, L.y.pts, _, 0, _, rfl, rfl, SqL.of hpts, at_of (j := 0) rfl rfl, T, L, n, e, o, q.1, dp, plq, q.2, n1, rfl, R, p1, p2, p3, Pq.nn, g1, fun H1 T1 L1 R1 N1 _ => hQ H1 T1 L1 R1 N1⟩
    · rw [if_neg (by rw [c2]; simp)] at ht
      cases ht
      exact hQ H T L R (Nx.refl H T L)
  · rw [if_neg (by rw [c1]; simp)] at ht
    refine ⟨_, rfl, _, rfl, T, L, n, e, o, sa, g, rfl, R, G, _, rfl, ?_⟩
    refine ifB (fun c2 => ?_) (fun c2 => ?_)
    · rw [if_pos c2] at ht
      refine ⟨_, rfl, _, _, _, _, rfl, ha, M.tx.clE, M.tx.nE_state, lnE, ?_⟩
      rw [ptE_state]
      generalize eq1 : upd _ _ _ = H1
      obtain ⟨R1, F1⟩ := R.setE (e' := { e with state := 4 }) eq1
      exact ⟨_, rfl, _, rfl, _, rfl, T, L, n, _, o, sa, g, r, rfl, R1, G.fr F1, ht, fun H2 T2 L2 R2 N2 => hQ H2 T2 L2 R2 (Nx.trans ⟨rfl, rfl, rfl, rfl, F1⟩ N2)⟩
    · rw [if_neg (by rw [c2]; simp)] at ht
      cases ht
      exact hQ H T L R (Nx.refl H T L)
end
end Ws
set_option Elab.async false
set_option linter.all false
set_option maxRecDepth 100000
set_option maxHeartbeats 4000000
namespace Ws
open PySem PySem.Spec PyProof.Rows L2 Wt

section
variable {P : Program} {w : World} {K : PySem.W.Frag} {mg : Str → Option Value} {base : Heap}
def Lay.swap (L : Lay) : Lay := { L with a := L.b, b := L.a, i := !L.i, y := L.z, z := L.y }
theorem both_swap (L : Lay) : both L.swap = both L := by
  unfold both Lay.swap
  cases L.i <;> rfl
theorem Rep.swap {K : PySem.W.Frag} {H : Hp} {T : Tm} {L : Lay} {n : MNet} {e o : MEnd} (R : Rep K H T L n e o) : Rep K H T L.swap n o e :=
  ⟨R.tx, R.lk, R.st, R.ini, by rw [both_swap]; exact R.ends, R.sg, R.ss, R.sa, R.eb, by show EndAt K H T (!(!L.i)) L.a L.y e; rw [Bool.not_not]; exact R.ea, R.tL, R.tS, R.tI, R.tN, R.tG⟩
/-- the whole link: a is endpoint 0, b endpoint 1 -/
def RepL (K : PySem.W.Frag) (H : Hp) (T : Tm) (L : Lay) (l : MLink) : Prop := L.i = false ∧ Rep K H T L l.n l.a l.b
def NxL (H : Hp) (T : Tm) (L : Lay) (H' : Hp) (T' : Tm) (L' : Lay) : Prop := L'.lk = L.lk ∧ L'.a = L.a ∧ L'.b = L.b ∧ Fr H T H' T'
theorem NxL.refl (H : Hp) (T : Tm) (L : Lay) : NxL H T L H T L := ⟨rfl, rfl, rfl, Fr.refl H T⟩
theorem NxL.trans {H H1 H2 : Hp} {T T1 T2 : Tm} {L L1 L2 : Lay} (a : NxL H T L H1 T1 L1) (b : NxL H1 T1 L1 H2 T2 L2) : NxL H T L H2 T2 L2 :=
  ⟨b.1.trans a.1, b.2.1.trans a.2.1, b.2.2.1.trans a.2.2.1, a.2.2.2.trans b.2.2.2⟩
theorem NxL.fr {H H' : Hp} {T T' : Tm} {L : Lay} (f : Fr H T H' T') : NxL H T L H' T' L := ⟨rfl, rfl, rfl, f⟩
/-- the endpoint looked at -/
def foc (L : Lay) (i : Bool) : Lay := if i = true then L.swap else L
theorem foc_lk (L : Lay) (i : Bool) : (foc L i).lk = L.lk := by cases i <;> rfl
theorem foc_a {L L' : Lay} (h1 : L'.a = L.a) (h2 : L'.b = L.b) (i : Bool) : (foc L' i).a = (foc L i).a := by
  cases i
  · exact h1
  · exact h2
theorem foc_t (L : Lay) : (foc L true).a = L.b := rfl
theorem foc_f (L : Lay) : (foc L false).a = L.a := rfl
theorem RepL.fo {K : PySem.W.Frag} {H : Hp} {T : Tm} {L : Lay} {l : MLink} (R : RepL K H T L l) (i : Bool) : Rep K H T (foc L i) l.n (l.at i) (l.at (!i)) := by
  cases i
  · exact R.2
  · exact R.2.swap
theorem swap_swap (L : Lay) : L.swap.swap = L := by
  unfold Lay.swap
  rw [Bool.not_not]
/-- back from one endpoint to the link -/
theorem RepL.back {K : PySem.W.Frag} {H H' : Hp} {T T' : Tm} {L L' : Lay} {n' : MNet} {e' o : MEnd} {i : Bool} (h : L.i = false) (R : Rep K H' T' L' n' e' o) (N : Nx H T (foc L i) H' T' L') : RepL K H' T' (foc L' i) (MLink.put n' o i e') ∧ NxL H T L H' T' (foc L' i) := by
  obtain ⟨n1, n2, n3, n4, f⟩ := N
  cases i
  · exact ⟨⟨by show L'.i = false; rw [n4]; exact h, R⟩, n1, n2, n3, f⟩
  · refine ⟨⟨by show (!L'.i) = false; rw [n4]; show (!(!L.i)) = false; rw [h]; rfl, R.swap⟩, n1, n3, n2, f⟩
theorem RepL.same {K : PySem.W.Frag} {H H' : Hp} {T T' : Tm} {L : Lay} {l : MLink} (R : RepL K H T L l) (s : Same H H') (t : ∀ p u, H p = some u → T' p = T p) : RepL K H' T' L l := ⟨R.1, R.2.same s t⟩
theorem RepL.sameF {K : PySem.W.Frag} {H H' : Hp} {T : Tm} {L : Lay} {l : MLink} (R : RepL K H T L l) (s : Same H H') : RepL K H' T L l ∧ NxL H T L H' T L := ⟨R.same s fun _ _ _ => rfl, NxL.fr (Fr.of_same s fun _ _ _ => rfl)⟩
theorem RepL.ends {K : PySem.W.Frag} {H : Hp} {T : Tm} {L : Lay} {l : MLink} (R : RepL K H T L l) : H L.ends = some (.lst [.ref L.a, .ref L.b]) := by
  have := R.2.ends
  unfold both at this
  rw [R.1, if_neg Bool.false_ne_true] at this
  exact this
theorem on_some {l l' : MLink} {i : Bool} {f : MNet → MEnd → Option (MNet × MEnd)} (h : l.on i f = some l') : ∃ r, f l.n (l.at i) = some r ∧ l' = MLink.put r.1 (l.at (!i)) i r.2 := by
  unfold MLink.on at h
  obtain ⟨r, h1, h2⟩ := bind_some h
  exact ⟨r, h1, (Option.some.inj h2).symm⟩
/-! ### a deed's answer: a new list of numbers, the link behind it -/
def AnsQ (K : PySem.W.Frag) (H : Hp) (T : Tm) (L : Lay) (f : Ans) (Q : VK) : Prop := ∃ r, f = some r ∧ ∀ H' T' L' p, RepL K H' T' L' r.1 → NxL H T L H' T' L' → H' p = some (.lst (r.2.map V.int)) → H p = none → Q (.ref p) H'
theorem Fr.back {H H' : Hp} {T T' : Tm} {p : Addr} (F : Fr H T H' T') (h : H' p = none) : H p = none := by
  cases z : H p with
  | none => rfl
  | some u =>
    obtain ⟨_, ⟨v, e⟩, _⟩ := F p u z
    rw [h] at e
    cases e
theorem AnsQ.to {K : PySem.W.Frag} {H : Hp} {T : Tm} {L : Lay} {l : MLink} {r : List Int} {Q : VK} (A : AnsQ K H T L (ans l r) Q) {H' : Hp} {T' : Tm} {L' : Lay} (R : RepL K H' T' L' l) (N : NxL H T L H' T' L') {p : Addr} (hp : H' p = none) : Q (.ref p) (upd H' p (.lst (r.map V.int))) := by
  obtain ⟨r', e, k⟩ := A
  cases e
  obtain ⟨R1, N1⟩ := R.sameF (same_upd (v := .lst (r.map V.int)) hp)
  exact k _ _ _ p R1 (N.trans N1) upd_same (N.2.2.2.back hp)
theorem AnsQ.to2 {K : PySem.W.Frag} {H : Hp} {T : Tm} {L : Lay} {l : MLink} {r : List Int} {Q : VK} (A : AnsQ K H T L (ans l r) Q) {H' : Hp} {T' : Tm} {L' : Lay} (R : RepL K H' T' L' l) (N : NxL H T L H' T' L') {p : Addr} (hp : H' p = some (.lst (r.map V.int))) (hn : H p = none) : Q (.ref p) H' := by
  obtain ⟨r', e, k⟩ := A
  cases e
  exact k _ _ _ p R N hp hn
def sp_receive (K : PySem.W.Frag) : Sp := fun vs H Q _ => ∃ T L l sa g r, vs = [.ref L.lk, .ref sa] ∧ RepL K H T L l ∧ SegAt K H T sa g ∧ receive l g = some r ∧ ∀ H' T' L', RepL K H' T' L' r.1 → NxL H T L H' T' L' → Q (.ref (foc L r.2).a) H'
theorem recv_some {l : MLink} {g : MSeg} {r : MLink × Bool} (h : receive l g = some r) : ∃ i n' e', ((g.sender = 0 ∧ i = true) ∨ (g.sender = 1 ∧ i = false)) ∧ recv l.n (l.at i) g = some (n', e') ∧ r = (MLink.put n' (l.at (!i)) i e', i) := by
  unfold receive at h
  split at h
  · rename_i c
    obtain ⟨l1, h1, h2⟩ := bind_some h
    obtain ⟨x, h3, h4⟩ := on_some h1
    exact ⟨true, x.1, x.2, .inl ⟨c, rfl⟩, h3, by rw [← Option.some.inj h2, h4]⟩
  · split at h
    · rename_i c
      obtain ⟨l1, h1, h2⟩ := bind_some h
      obtain ⟨x, h3, h4⟩ := on_some h1
      exact ⟨false, x.1, x.2, .inr ⟨c, rfl⟩, h3, by rw [← Option.some.inj h2, h4]⟩
    · cases h
theorem sc_receive : FnScope ["link", "segment", "endpoint"] ["link", "segment"] (defScope s_receive) := ⟨rfl, rfl, rfl, by decide +kernel, rfl, by decide +kernel, by decide +kernel⟩
theorem ok_receive (D : DefsOk K mg) (F_receive_established : OkF P w K mg base "receive_established" 8 ["link", "endpoint", "segment"] (sp_receive_established K)) (F_receive_listening : OkF P w K mg base "receive_listening" 6 ["link", "endpoint", "segment"] (sp_receive_listening K)) (F_receive_reset : OkF P w K mg base "receive_reset" 2 ["link", "endpoint", "segment"] (sp_receive_reset K)) (F_receive_syn_received : OkF P w K mg base "receive_syn_received" 9 ["link", "endpoint", "segment"] (sp_receive_syn_received K)) (F_receive_syn_sent : OkF P w K mg base "receive_syn_sent" 8 ["link", "endpoint", "segment"] (sp_receive_syn_sent K)) (M_Segment_has_flag : OkM P w K mg base (He.ga K "Segment") "has_flag" 1 ["self", "flag"] (sp_Segment_has_flag K)) : OkF P w K mg base "receive" 10 ["link", "segment"] (sp_receive K) := by
  have M := D.m
  refine okF (st := s_receive) (N := ["link", "segment", "endpoint"]) D.d_receive D.g_receive sc_receive (fun vs H Q E h => ?_) (fun _ _ _ _ _ _ us hl => match us, hl with | [_, _], _ => rfl) (fun cdv A outer s H vs Q E hr h => ?_)
  · obtain ⟨T, L, l, sa, g, r, rfl, R, G, ht, hQ⟩ := h
    rfl
  obtain ⟨T, L, l, sa, g, r, rfl, R, G, ht, hQ⟩ := h
  refine ⟨_, (pss_cons (ps_set (i := 2) sc_receive.nd rfl (Or.inl rfl) (pe_ix ix_list (pe_fld (pv 0) rfl) (pe_op op_sub pe_int (pe_fld (pv 1) rfl)) (fun _ _ => rfl)))
      (pss_cons (ps_if (pt_val (c_meth M_Segment_has_flag (hr.mono (by decide)) (pv 1) (pa_cons (pe_kon M.k_RESET) pa_nil))) (pss_one (ps_expr (c_call F_receive_reset (hr.mono (by decide)) rfl (pa_cons (pv 0) (pa_cons (pv 2) (pa_cons (pv 1) pa_nil)))))) (pss_one (ps_if (pt_cmpR op_in_seq (pe_fld (pv 2) rfl) (pe_tup (pa_cons (pe_kon M.k_CLOSED) (pa_cons (pe_kon M.k_FAILED) pa_nil))) (by with_unfolding_all rfl)) (pss_one (ps_ret (pv 2))) (pss_one (ps_if (pt_cmp (pc_eqI (pe_fld (pv 2) rfl) (pe_kon M.k_LISTENING))) (pss_one (ps_expr (c_call F_receive_listening (hr.mono (by decide)) rfl (pa_cons (pv 0) (pa_cons (pv 2) (pa_cons (pv 1) pa_nil)))))) (pss_one (ps_if (pt_cmp (pc_eqI (pe_fld (pv 2) rfl) (pe_kon M.k_SYN_SENT))) (pss_one (ps_expr (c_call F_receive_syn_sent (hr.mono (by decide)) rfl (pa_cons (pv 0) (pa_cons (pv 2) (pa_cons (pv 1) pa_nil)))))) (pss_one (ps_if (pt_cmp (pc_eqI (pe_fld (pv 2) rfl) (pe_kon M.k_SYN_RECEIVED))) (pss_one (ps_expr (c_call F_receive_syn_received (hr.mono (by decide)) rfl (pa_cons (pv 0) (pa_cons (pv 2) (pa_cons (pv 1) pa_nil)))))) (pss_one (ps_expr (c_call F_receive_established (hr.mono (by decide)) rfl (pa_cons (pv 0) (pa_cons (pv 2) (pa_cons (pv 1) pa_nil)))))))))))))))
      (pss_one (ps_ret (pv 2))))), ?_⟩
  obtain ⟨i, n', e', hi, hv, rfl⟩ := recv_some ht
  have Rf := R.fo i
  obtain ⟨dl, hl⟩ := R.2.lk
  obtain ⟨da, ha⟩ := Rf.ea.obj
  obtain ⟨dg, pl, bl, bs, hg, hgp, _, _, _, _, _, _, nn⟩ := id G
  have fin : ∀ H' T' L', Rep K H' T' L' n' e' (l.at (!i)) → Nx H T (foc L i) H' T' L' → Q (.ref (foc L i).a) H' := fun H' T' L' R' N' => by
    obtain ⟨R1, N1⟩ := RepL.back R.1 R' N'
    exact hQ H' T' _ R1 N1
  have ix : atI [V.ref L.a, V.ref L.b] (1 - g.sender) = some (.ref (foc L i).a) := by
    rcases hi with ⟨h1, h2⟩ | ⟨h1, h2⟩
    · rw [h1, h2]
      exact at_of (j := 1) rfl rfl
    · rw [h1, h2]
      exact at_of (j := 0) rfl rfl
  refine ⟨_, rfl, _, _, _, _, _, rfl, hl, M.tx.clL, M.tx.nL_ends, lkL_ends, _, rfl, _, _, _, _, _, rfl, hg, M.tx.clG, M.tx.nG_sender, lkG_sender, 1, _, rfl, rfl, L.ends, _, _, _, rfl, rfl, SqL.of R.ends, ix, ?_⟩
  rw [← foc_lk L i]
  rw [← foc_lk L i] at hl
  generalize foc L i = F at Rf ha fin hl ⊢
  generalize l.at i = e at hv Rf ha
  generalize l.at (!i) = o at Rf fin
  generalize l.n = n at hv Rf hl fin
  unfold recv at hv
  refine ⟨_, rfl, sa, dg, _, rfl, hg, rfl, sa, dg, pl, bl, g, 4, rfl, hg, nn, by decide, _, rfl, ?_⟩
  refine ifB (fun c1 => ?_) (fun c1 => ?_)
  · rw [if_pos c1] at hv
    cases hv
    exact ⟨_, rfl, _, rfl, _, rfl, T, F, _, _, o, sa, g, rfl, Rf, G, fun H1 T1 L1 R1 N1 => ⟨_, rfl, fin H1 T1 L1 R1 N1⟩⟩
  rw [if_neg (by rw [c1]; simp)] at hv
  refine ⟨_, rfl, _, _, _, _, _, rfl, ha, M.tx.clE, M.tx.nE_state, lkE_state, (by show 2 ≤ sizeLine; decide), fun w hw => ?_⟩
  generalize e1 : upd _ _ _ = H1
  have s1 : Same H H1 := by rw [← e1]; exact same_upd hw
  have hw1 : H1 w = some (.tup [.int 0, .int 8]) := by rw [← e1]; exact upd_same
  obtain ⟨R1, F1⟩ := Rf.sameF s1
  have ha1 := s1 _ _ ha
  have N1 : Nx H T F H1 T F := ⟨rfl, rfl, rfl, rfl, F1⟩
  have G1 := G.fr F1
  refine ⟨w, _, rfl, .inr (SqT.of hw1), rfl, rfl, _, rfl, ?_⟩
  rw [show (if false = true then !inV (.int e.state) [.int 0, .int 8] else inV (.int e.state) [.int 0, .int 8]) = decide (e.state = 0 ∨ e.state = 8) from in2]
  refine ifD (c := e.state = 0 ∨ e.state = 8) (fun c2 => ?_) (fun c2 => ?_)
  · rw [if_pos c2] at hv
    cases hv
    exact ⟨_, rfl, fin H1 T F R1 N1⟩
  rw [if_neg c2] at hv
  refine ⟨_, rfl, _, _, _, _, _, rfl, ha1, M.tx.clE, M.tx.nE_state, lkE_state, _, _, rfl, rfl, _, rfl, ?_⟩
  refine ifD (c := e.state = 1) (fun c3 => ?_) (fun c3 => ?_)
  · rw [if_pos c3] at hv
    exact ⟨_, rfl, _, rfl, _, rfl, T, F, n, e, o, sa, g, _, rfl, R1, G1, hv, fun H2 T2 L2 R2 N2 => ⟨_, rfl, fin H2 T2 L2 R2 (N1.trans N2)⟩⟩
  rw [if_neg c3] at hv
  refine ⟨_, rfl, _, _, _, _, _, rfl, ha1, M.tx.clE, M.tx.nE_state, lkE_state, _, _, rfl, rfl, _, rfl, ?_⟩
  refine ifD (c := e.state = 2) (fun c4 => ?_) (fun c4 => ?_)
  · rw [if_pos c4] at hv
    exact ⟨_, rfl, _, rfl, _, rfl, T, F, n, e, o, sa, g, _, rfl, R1, G1, hv, fun H2 T2 L2 R2 N2 => ⟨_, rfl, fin H2 T2 L2 R2 (N1.trans N2)⟩⟩
  rw [if_neg c4] at hv
  refine ⟨_, rfl, _, _, _, _, _, rfl, ha1, M.tx.clE, M.tx.nE_state, lkE_state, _, _, rfl, rfl, _, rfl, ?_⟩
  refine ifD (c := e.state = 3) (fun c5 => ?_) (fun c5 => ?_)
  · rw [if_pos c5] at hv
    exact ⟨_, rfl, _, rfl, _, rfl, T, F, n, e, o, sa, g, _, rfl, R1, G1, hv, fun H2 T2 L2 R2 N2 => ⟨_, rfl, fin H2 T2 L2 R2 (N1.trans N2)⟩⟩
  rw [if_neg c5] at hv
  exact ⟨_, rfl, _, rfl, _, rfl, T, F, n, e, o, sa, g, _, rfl, R1, G1, hv, fun H2 T2 L2 R2 N2 => ⟨_, rfl, fin H2 T2 L2 R2 (N1.trans N2)⟩⟩
/-! ### the clock -/
def endV (L : Lay) : Option Bool → V
  | none => .non
  | some i => .ref (foc L i).a
def sp_next_endpoint (K : PySem.W.Frag) : Sp := fun vs H Q _ => ∃ T L l, vs = [.ref L.lk] ∧ RepL K H T L l ∧ ∀ H', Same H H' → Q (endV L (nextEnd l)) H'
theorem sc_next_endpoint : FnScope ["link", "running", "endpoint"] ["link"] (defScope s_next_endpoint) := ⟨rfl, rfl, rfl, by decide +kernel, rfl, by decide +kernel, by decide +kernel⟩
theorem ok_next_endpoint (D : DefsOk K mg)  : OkF P w K mg base "next_endpoint" 1 ["link"] (sp_next_endpoint K) := by
  have M := D.m
  refine okF (st := s_next_endpoint) (N := ["link", "running", "endpoint"]) D.d_next_endpoint D.g_next_endpoint sc_next_endpoint (fun vs H Q E h => ?_) (fun _ _ _ _ _ _ us hl => match us, hl with | [_], _ => rfl) (fun cdv A outer s H vs Q E hr h => ?_)
  · obtain ⟨T, L, l, rfl, R, hQ⟩ := h
    rfl
  obtain ⟨T, L, l, rfl, R, hQ⟩ := h
  refine ⟨_, (pss_cons (ps_setLc (i := 1) (own := [("endpoint", 2)]) (g := gName 2) rfl sc_next_endpoint.nd rfl rfl (sw_true rfl rfl rfl (by decide +kernel)) (pi_list (pe_fld (pv 0) rfl)) (blkOk_by (N := ["link", "running", "endpoint"]) (sc := defScope s_next_endpoint) (by decide +kernel)) (fun _ _ _ _ _ => pg_name (i := 2) sc_next_endpoint.nd rfl (Or.inl rfl)) (fun _ _ _ _ _ => pts_one (by exact (pt_notN (pe_fldK (K := K) rfl (pv 2) rfl)))) (fun _ _ _ _ _ => by exact (pv 2)))
      (pss_cons (ps_if (PW.pt (pw_and (pt_cmp (pc_eqI (pe_callB call_len_seq (by rfl) M.b_len bt_len (pa_cons (pv 1) pa_nil)) pe_int)) (pw_and1 (pt_cmp (pc_lt (pe_fld (pe_ix ix_list (pv 1) pe_int (fun _ _ => rfl)) rfl) (pe_fld (pe_ix ix_list (pv 1) pe_int (fun _ _ => rfl)) rfl)))))) (pss_one (ps_ret (pe_ix ix_list (pv 1) pe_int (fun _ _ => rfl)))) pss_nil)
      (pss_one (ps_ret (pe_ifExp (pt_cmpR (op_neN (X := _) hr.units) (pv 1) (pe_lst pa_nil) (nomark _)) (pe_ix ix_list (pv 1) pe_int (fun _ _ => rfl)) pe_non))))), ?_⟩
  obtain ⟨dl, hl⟩ := R.2.lk
  obtain ⟨da, ha⟩ := R.2.ea.obj
  obtain ⟨db, hb⟩ := R.2.eb.obj
  -- the endpoints whose timer runs
  let run : List V := (if l.a.timer = none then [] else [V.ref L.a]) ++ (if l.b.timer = none then [] else [V.ref L.b])
  refine ⟨_, rfl, _, _, _, _, _, rfl, hl, M.tx.clL, M.tx.nL_ends, lkL_ends, _, rfl, ⟨_, SqL.of R.ends⟩, fun D hD => ?_⟩
  refine lc_list (K := K) (xs := [V.ref L.a, V.ref L.b]) (fun i H' => Same H H' ∧ H D = none ∧ H' D = some (.lst (match i with | 0 => [] | 1 => (if l.a.timer = none then [] else [V.ref L.a]) | _ => run))) ⟨same_upd hD, hD, upd_same⟩ (fun i H' _ h => SqL.of (h.1 _ _ R.ends)) ?_ ?_
  · rintro i x H1 hx ⟨s1, hD, h1⟩
    have keep : ∀ xs, Same H (upd H1 D (.lst xs)) := fun xs b u hb => by
      rw [upd_ne (ne_of_none hb hD)]
      exact s1 b u hb
    have h16 : sizeLine = 16777216 := sizeLine_eq
    match i, hx with
    | 0, hx =>
      cases hx
      refine ⟨rfl, ?_⟩
      refine ⟨_, rfl, _, _, _, _, _, rfl, s1 _ _ ha, M.tx.clE, M.tx.nE_timer, lkE_timer, _, rfl, ?_⟩
      rw [tV_none]
      refine ifN (c := l.a.timer = none) (fun c => ?_) (fun c => ?_)
      · refine ⟨_, rfl, _, h1, by show 0 < sizeLine; decide, keep _, hD, ?_⟩
        rw [upd_same]
        show some (HO.lst [V.ref L.a]) = some (.lst (if l.a.timer = none then [] else [V.ref L.a]))
        rw [if_neg c]
      · refine ⟨s1, hD, ?_⟩
        rw [h1]
        show some (HO.lst []) = some (.lst (if l.a.timer = none then [] else [V.ref L.a]))
        rw [if_pos c]
    | 1, hx =>
      cases hx
      refine ⟨rfl, ?_⟩
      refine ⟨_, rfl, _, _, _, _, _, rfl, s1 _ _ hb, M.tx.clE, M.tx.nE_timer, lkE_timer, _, rfl, ?_⟩
      rw [tV_none]
      refine ifN (c := l.b.timer = none) (fun c => ?_) (fun c => ?_)
      · refine ⟨_, rfl, _, h1, ?_, keep _, hD, ?_⟩
        · show (if l.a.timer = none then [] else [V.ref L.a]).length < sizeLine
          split
          · show 0 < sizeLine; decide
          · show 1 < sizeLine; decide
        rw [upd_same]
        show some (HO.lst ((if l.a.timer = none then [] else [V.ref L.a]) ++ [V.ref L.b])) = some (.lst ((if l.a.timer = none then [] else [V.ref L.a]) ++ (if l.b.timer = none then [] else [V.ref L.b])))
        rw [if_neg c]
      · refine ⟨s1, hD, ?_⟩
        rw [h1]
        show some (HO.lst (if l.a.timer = none then [] else [V.ref L.a])) = some (.lst ((if l.a.timer = none then [] else [V.ref L.a]) ++ (if l.b.timer = none then [] else [V.ref L.b])))
        rw [if_pos c, List.append_nil]
    | i + 2, hx => cases hx
  rintro H1 ⟨s1, hD, h1⟩
  have h1 : H1 D = some (.lst run) := h1
  have ha1 := s1 _ _ ha
  have hb1 := s1 _ _ hb
  refine ⟨_, rfl, _, _, rfl, .inl (SqL.of h1), _, _, rfl, rfl, _, rfl, ?_⟩
  cases hta : l.a.timer with
  | none =>
    cases htb : l.b.timer with
    | none =>
      have er : run = [] := by show (if l.a.timer = none then [] else [V.ref L.a]) ++ (if l.b.timer = none then [] else [V.ref L.b]) = _; rw [hta, htb]; rfl
      have en : nextEnd l = none := by unfold nextEnd; rw [hta, htb]
      rw [er] at h1 ⊢
      rw [en] at hQ
      refine iteF (iteF ⟨_, rfl, (by show 0 ≤ sizeLine; decide), fun w hw => ?_⟩)
      refine ⟨_, w, _, rfl, rfl, SqL.of (same_upd hw _ _ h1), SqL.of upd_same, _, rfl, ?_⟩
      exact iteF (hQ _ (s1.trans (same_upd hw)))
    | some u =>
      have er : run = [V.ref L.b] := by show (if l.a.timer = none then [] else [V.ref L.a]) ++ (if l.b.timer = none then [] else [V.ref L.b]) = _; rw [hta, htb]; rfl
      have en : nextEnd l = some true := by unfold nextEnd; rw [hta, htb]
      rw [er] at h1 ⊢
      rw [en] at hQ
      refine iteF (iteF ⟨_, rfl, (by show 0 ≤ sizeLine; decide), fun w hw => ?_⟩)
      have h2 := same_upd (v := .lst []) hw _ _ h1
      refine ⟨_, w, _, rfl, rfl, SqL.of h2, SqL.of upd_same, _, rfl, ?_⟩
      exact iteT ⟨_, rfl, D, _, 0, _, rfl, rfl, SqL.of h2, at_of (j := 0) rfl rfl, hQ _ (s1.trans (same_upd hw))⟩
  | some t =>
    cases htb : l.b.timer with
    | none =>
      have er : run = [V.ref L.a] := by show (if l.a.timer = none then [] else [V.ref L.a]) ++ (if l.b.timer = none then [] else [V.ref L.b]) = _; rw [hta, htb]; rfl
      have en : nextEnd l = some false := by unfold nextEnd; rw [hta, htb]
      rw [er] at h1 ⊢
      rw [en] at hQ
      refine iteF (iteF ⟨_, rfl, (by show 0 ≤ sizeLine; decide), fun w hw => ?_⟩)
      have h2 := same_upd (v := .lst []) hw _ _ h1
      refine ⟨_, w, _, rfl, rfl, SqL.of h2, SqL.of upd_same, _, rfl, ?_⟩
      exact iteT ⟨_, rfl, D, _, 0, _, rfl, rfl, SqL.of h2, at_of (j := 0) rfl rfl, hQ _ (s1.trans (same_upd hw))⟩
    | some u =>
      have er : run = [V.ref L.a, V.ref L.b] := by show (if l.a.timer = none then [] else [V.ref L.a]) ++ (if l.b.timer = none then [] else [V.ref L.b]) = _; rw [hta, htb]; rfl
      have en : nextEnd l = if u < t then some true else some false := by unfold nextEnd; rw [hta, htb]
      rw [er] at h1 ⊢
      rw [en] at hQ
      have gb := lkE_timer (e := l.b) (y := L.z)
      rw [htb] at gb
      have ga := lkE_timer (e := l.a) (y := L.y)
      rw [hta] at ga
      refine iteT ⟨_, rfl, D, _, 1, _, rfl, rfl, SqL.of h1, at_of (j := 1) rfl rfl, _, _, _, _, _, rfl, hb1, M.tx.clE, M.tx.nE_timer, gb, ?_⟩
      refine ⟨_, rfl, D, _, 0, _, rfl, rfl, SqL.of h1, at_of (j := 0) rfl rfl, _, _, _, _, _, rfl, ha1, M.tx.clE, M.tx.nE_timer, ga, _, _, rfl, rfl, _, rfl, ?_⟩
      refine ifD (c := u < t) (fun c => ?_) (fun c => ?_)
      · rw [if_pos c] at hQ
        exact ⟨_, rfl, D, _, 1, _, rfl, rfl, SqL.of h1, at_of (j := 1) rfl rfl, hQ H1 s1⟩
      · rw [if_neg c] at hQ
        refine ⟨_, rfl, (by show 0 ≤ sizeLine; decide), fun w hw => ?_⟩
        have h2 := same_upd (v := .lst []) hw _ _ h1
        refine ⟨_, w, _, rfl, rfl, SqL.of h2, SqL.of upd_same, _, rfl, ?_⟩
        exact iteT ⟨_, rfl, D, _, 0, _, rfl, rfl, SqL.of h2, at_of (j := 0) rfl rfl, hQ _ (s1.trans (same_upd hw))⟩
def sp_fire (K : PySem.W.Frag) : Sp := fun vs H Q _ => ∃ T L l i l', vs = [.ref L.lk, .ref (foc L i).a] ∧ RepL K H T L l ∧ fire l i = some l' ∧ ∀ H' T' L', RepL K H' T' L' l' → NxL H T L H' T' L' → Q .non H'
theorem sc_fire : FnScope ["link", "endpoint"] ["link", "endpoint"] (defScope s_fire) := ⟨rfl, rfl, rfl, by decide +kernel, rfl, by decide +kernel, by decide +kernel⟩
theorem ok_fire (D : DefsOk K mg) (F_expire : OkF P w K mg base "expire" 7 ["link", "endpoint"] (sp_expire K)) : OkF P w K mg base "fire" 8 ["link", "endpoint"] (sp_fire K) := by
  have M := D.m
  refine okF (st := s_fire) (N := ["link", "endpoint"]) D.d_fire D.g_fire sc_fire (fun vs H Q E h => ?_) (fun _ _ _ _ _ _ us hl => match us, hl with | [_, _], _ => rfl) (fun cdv A outer s H vs Q E hr h => ?_)
  · obtain ⟨T, L, l, i, l', rfl, R, ht, hQ⟩ := h
    rfl
  obtain ⟨T, L, l, i, l', rfl, R, ht, hQ⟩ := h
  refine ⟨_, (pss_cons (ps_fld (pv 0) (pe_callB (call_max2 rfl) (by rfl) M.b_max bt_max (pa_cons (pe_fld (pv 0) rfl) (pa_cons (pe_fld (pv 1) rfl) pa_nil))) rfl)
      (pss_one (ps_expr (c_call F_expire (hr.mono (by decide)) rfl (pa_cons (pv 0) (pa_cons (pv 1) pa_nil)))))), ?_⟩
  unfold fire at ht
  cases htm : (l.at i).timer with
  | none => rw [htm] at ht; cases ht
  | some t =>
    rw [htm] at ht
    obtain ⟨r, h1, rfl⟩ := on_some (show l.on i (fun n e => expire { n with now := pmax n.now t } e) = some l' from ht)
    have Rf := R.fo i
    obtain ⟨dl, hl⟩ := Rf.lk
    rw [foc_lk] at hl
    obtain ⟨da, ha⟩ := Rf.ea.obj
    have ga := lkE_timer (e := l.at i) (y := (foc L i).y)
    rw [htm] at ga
    refine ⟨_, rfl, _, _, _, _, _, rfl, hl, M.tx.clL, M.tx.nL_now, lkL_now, _, rfl, _, _, _, _, _, rfl, ha, M.tx.clE, M.tx.nE_timer, ga, _, _, rfl, _, rfl, _, _, _, _, rfl, hl, M.tx.clL, M.tx.nL_now, lnL, ?_⟩
    rw [ptL_now]
    generalize e1 : upd _ _ _ = H1
    rw [← foc_lk L i] at e1
    obtain ⟨R1, F1⟩ := Rf.setL (n' := { l.n with now := pmax l.n.now t }) e1
    refine ⟨_, rfl, _, rfl, T, foc L i, _, _, _, r, by rw [foc_lk]; rfl, R1, h1, fun H2 T2 L2 R2 N2 => ?_⟩
    obtain ⟨R3, N3⟩ := RepL.back R.1 R2 (Nx.trans ⟨rfl, rfl, rfl, rfl, F1⟩ N2)
    exact hQ H2 T2 _ R3 N3
end
end Ws
set_option Elab.async false
set_option linter.all false
set_option maxRecDepth 100000
set_option maxHeartbeats 4000000
namespace Ws
open PySem PySem.Spec PyProof.Rows L2 Wt

section
variable {P : Program} {w : World} {K : PySem.W.Frag} {mg : Str → Option Value} {base : Heap}
/-- the module's tables -/
structure Tabs (K : PySem.W.Frag) : Prop where
  c : ∀ H, SqT K H (He.ga K "COUNTS") (cnts.map V.int)
  l : ∃ as : List Addr, as.length = 6 ∧ (∀ H, SqT K H (He.ga K "LIMITS") (as.map V.ref)) ∧ ∀ (j : Nat) (a : Addr) (p : Int × Int), as[j]? = some a → lims[j]? = some p → ∀ H, SqT K H a [.int p.1, .int p.2]
/-- all but p stands, no mark changes -/
def KT (p : Addr) (H : Hp) (T : Tm) (H' : Hp) (T' : Tm) : Prop := (∀ b u, H b = some u → b ≠ p → H' b = some u) ∧ ∀ b u, H b = some u → (∃ u', H' b = some u') ∧ T' b = T b
theorem KT.refl (p : Addr) (H : Hp) (T : Tm) : KT p H T H T := ⟨fun _ _ h _ => h, fun _ u h => ⟨⟨u, h⟩, rfl⟩⟩
theorem KT.trans {p : Addr} {H H1 H2 : Hp} {T T1 T2 : Tm} (a : KT p H T H1 T1) (b : KT p H1 T1 H2 T2) : KT p H T H2 T2 := by
  refine ⟨fun c u h ne => b.1 c u (a.1 c u h ne) ne, fun c u h => ?_⟩
  obtain ⟨⟨u1, h1⟩, t1⟩ := a.2 c u h
  obtain ⟨x, t2⟩ := b.2 c u1 h1
  exact ⟨x, t2.trans t1⟩
theorem KT.set {p : Addr} {H H' : Hp} {T : Tm} {v : HO} (e : upd H p v = H') : KT p H T H' T := by
  subst e
  refine ⟨fun b u h ne => by rw [upd_ne ne]; exact h, fun b u h => ⟨?_, rfl⟩⟩
  by_cases q : b = p
  · rw [q]; exact ⟨v, upd_same⟩
  · rw [upd_ne q]; exact ⟨u, h⟩
theorem KT.new {p q : Addr} {H H' : Hp} {T : Tm} {v : HO} (g : Tg) (n : H q = none) (e : upd H q v = H') : KT p H T H' (rtg H T q g) ∧ H' q = some v ∧ rtg H T q g q = g ∧ Same H H' := by
  subst e
  exact ⟨⟨fun b u h _ => same_upd n _ _ h, fun b u h => ⟨⟨u, same_upd n _ _ h⟩, rtg_old n h⟩⟩, upd_same, rtg_at, same_upd n⟩
theorem KT.none {p q : Addr} {H H' : Hp} {T T' : Tm} (k : KT p H T H' T') (n : H' q = none) : H q = none := by
  cases z : H q with
  | none => rfl
  | some u =>
    obtain ⟨⟨u', h⟩, _⟩ := k.2 q u z
    rw [n] at h
    cases h
theorem keep_new {p q : Addr} {H H' : Hp} {v u : HO} (n : H q = none) (e : upd H q v = H') (h : H p = some u) : H' p = some u := by
  subst e
  exact same_upd n _ _ h
/-- a list that stands, with its mark -/
def At (H : Hp) (T : Tm) (q : Addr) (v : HO) (g : Tg) : Prop := H q = some v ∧ T q = g
theorem At.kt {p q : Addr} {H H' : Hp} {T T' : Tm} {v : HO} {g : Tg} (a : At H T q v g) (k : KT p H T H' T') (n : q ≠ p) : At H' T' q v g := ⟨k.1 _ _ a.1 n, (k.2 _ _ a.1).2.trans a.2⟩
def sp_Settings_init (K : PySem.W.Frag) : Sp := fun vs H Q _ => ∃ (T : Tm) (p dx ini : Addr) (n : MNet), vs = [.ref p, .int n.size, .int n.buffer, .int n.timeout, .int n.attempts, .ref ini] ∧ H p = some (.ins (cS K) dx []) ∧ ∀ H', KT p H T H' T → H' p = some (.ins (cS K) dx (fS n ini)) → Q .non H'
theorem sc_Settings_init : FnScope ["self", "segment_size", "buffer", "timeout", "attempts", "initials"] ["self", "segment_size", "buffer", "timeout", "attempts", "initials"] (defScope s_Settings_init) := ⟨rfl, rfl, rfl, by decide +kernel, rfl, by decide +kernel, by decide +kernel⟩
theorem ok_Settings_init (D : DefsOk K mg)  : OkI P w K mg base "Settings" 1 ["self", "segment_size", "buffer", "timeout", "attempts", "initials"] (sp_Settings_init K) := by
  have M := D.m
  refine okI (st := s_Settings_init) (N := ["self", "segment_size", "buffer", "timeout", "attempts", "initials"]) D.d_Settings_init D.mk_Settings D.g_Settings sc_Settings_init (fun vs H Q E h => ?_) (fun _ _ _ _ _ _ us hl => match us, hl with | [_, _, _, _, _, _], _ => rfl) (fun cdv A outer s H vs Q E hr h => ?_)
  · obtain ⟨T, p, dx, ini, n, rfl, hp, hQ⟩ := h
    rfl
  obtain ⟨T, p, dx, ini, n, rfl, hp, hQ⟩ := h
  refine ⟨_, (pss_cons (ps_fld (pv 0) (pv 1) rfl)
      (pss_cons (ps_fld (pv 0) (pv 2) rfl)
      (pss_cons (ps_fld (pv 0) (pv 3) rfl)
      (pss_cons (ps_fld (pv 0) (pv 4) rfl)
      (pss_one (ps_fld (pv 0) (pv 5) rfl)))))), ?_⟩
  refine ⟨_, rfl, _, rfl, _, _, _, _, rfl, hp, M.tx.clS, M.tx.nS_segment_size, (by show 0 < 1000; decide), ?_⟩
  rw [inS_segment_size (n := n) (ini := ini)]
  generalize e1 : upd _ _ _ = H1
  have k1 := KT.set (T := T) e1
  obtain ⟨h1, _⟩ := keep_upd e1
  refine ⟨_, rfl, _, rfl, _, _, _, _, rfl, h1, M.tx.clS, M.tx.nS_buffer, take_len _ (by decide), ?_⟩
  rw [inS_buffer (n := n) (ini := ini)]
  generalize e2 : upd _ _ _ = H2
  have k2 := KT.set (T := T) e2
  obtain ⟨h2, _⟩ := keep_upd e2
  refine ⟨_, rfl, _, rfl, _, _, _, _, rfl, h2, M.tx.clS, M.tx.nS_timeout, take_len _ (by decide), ?_⟩
  rw [inS_timeout (n := n) (ini := ini)]
  generalize e3 : upd _ _ _ = H3
  have k3 := KT.set (T := T) e3
  obtain ⟨h3, _⟩ := keep_upd e3
  refine ⟨_, rfl, _, rfl, _, _, _, _, rfl, h3, M.tx.clS, M.tx.nS_attempts, take_len _ (by decide), ?_⟩
  rw [inS_attempts (n := n) (ini := ini)]
  generalize e4 : upd _ _ _ = H4
  have k4 := KT.set (T := T) e4
  obtain ⟨h4, _⟩ := keep_upd e4
  refine ⟨_, rfl, _, rfl, _, _, _, _, rfl, h4, M.tx.clS, M.tx.nS_initials, take_len _ (by decide), ?_⟩
  rw [inS_initials (n := n) (ini := ini)]
  generalize e5 : upd _ _ _ = H5
  have k5 := KT.set (T := T) e5
  obtain ⟨h5, _⟩ := keep_upd e5
  exact hQ H5 ((((k1.trans k2).trans k3).trans k4).trans k5) h5
def sp_Endpoint_init (K : PySem.W.Frag) : Sp := fun vs H Q _ => ∃ (T : Tm) (i : Bool) (p dx st ds ini : Addr) (n : MNet) (v : Int), vs = [.ref p, .int (sideOf i), .ref st] ∧ H p = some (.ins (cE K) dx []) ∧ st ≠ p ∧ H st = some (.ins (cS K) ds (fS n ini)) ∧ H ini = some (.lst (n.ini.map V.int)) ∧ atI (n.ini.map V.int) (sideOf i) = some (.int v) ∧
  ∀ H' T' y, KT p H T H' T' → H' p = some (.ins (cE K) dx (fE (newEnd n (sideOf i) v) y)) → EndC K H' T' i y (newEnd n (sideOf i) v) → Q .non H'
theorem sc_Endpoint_init : FnScope ["self", "side", "settings"] ["self", "side", "settings"] (defScope s_Endpoint_init) := ⟨rfl, rfl, rfl, by decide +kernel, rfl, by decide +kernel, by decide +kernel⟩
theorem ok_Endpoint_init (D : DefsOk K mg)  : OkI P w K mg base "Endpoint" 1 ["self", "side", "settings"] (sp_Endpoint_init K) := by
  have M := D.m
  refine okI (st := s_Endpoint_init) (N := ["self", "side", "settings"]) D.d_Endpoint_init D.mk_Endpoint D.g_Endpoint sc_Endpoint_init (fun vs H Q E h => ?_) (fun _ _ _ _ _ _ us hl => match us, hl with | [_, _, _], _ => rfl) (fun cdv A outer s H vs Q E hr h => ?_)
  · obtain ⟨T, i, p, dx, st, ds, ini, n, v, rfl, hp, nsp, hs, hi, hat, hQ⟩ := h
    rfl
  obtain ⟨T, i, p, dx, st, ds, ini, n, v, rfl, hp, nsp, hs, hi, hat, hQ⟩ := h
  refine ⟨_, (pss_cons (ps_fld (pv 0) (pv 1) rfl)
      (pss_cons (ps_fld (pv 0) (pe_ix ix_list (pe_fld (pv 2) rfl) (pv 1) (fun _ _ => rfl)) rfl)
      (pss_cons (ps_fld (pv 0) (pe_ifExp (pt_cmp (pc_eqI (pv 1) pe_int)) (pe_kon M.k_CLOSED) (pe_kon M.k_LISTENING)) rfl)
      (pss_cons (ps_fld (pv 0) pe_int rfl)
      (pss_cons (ps_fld (pv 0) pe_int rfl)
      (pss_cons (ps_fld (pv 0) (pe_lst pa_nil) rfl)
      (pss_cons (ps_fld (pv 0) (pe_lst pa_nil) rfl)
      (pss_cons (ps_fld (pv 0) pe_bl rfl)
      (pss_cons (ps_fld (pv 0) pe_bl rfl)
      (pss_cons (ps_fld (pv 0) pe_int rfl)
      (pss_cons (ps_fld (pv 0) pe_int rfl)
      (pss_cons (ps_fld (pv 0) (pe_lst pa_nil) rfl)
      (pss_cons (ps_fld (pv 0) pe_dnewK rfl)
      (pss_cons (ps_fld (pv 0) (pe_kon M.k_NO_FIN) rfl)
      (pss_cons (ps_fld (pv 0) pe_bl rfl)
      (pss_cons (ps_fld (pv 0) pe_int rfl)
      (pss_cons (ps_fld (pv 0) (pe_op op_mul pe_int (pe_fld (pv 2) rfl)) rfl)
      (pss_cons (ps_fld (pv 0) (pe_fld (pv 2) rfl) rfl)
      (pss_cons (ps_fld (pv 0) (pe_fld (pv 2) rfl) rfl)
      (pss_cons (ps_fld (pv 0) pe_non rfl)
      (pss_cons (ps_fld (pv 0) pe_int rfl)
      (pss_cons (ps_fld (pv 0) pe_int rfl)
      (pss_cons (ps_fld (pv 0) pe_bl rfl)
      (pss_cons (ps_fld (pv 0) pe_int rfl)
      (pss_cons (ps_fld (pv 0) pe_int rfl)
      (pss_cons (ps_fld (pv 0) pe_int rfl)
      (pss_one (ps_fld (pv 0) pe_int rfl)))))))))))))))))))))))))))), ?_⟩
  have nip : ini ≠ p := fun z => by rw [z, hp] at hi; cases hi
  generalize ev : newEnd n (sideOf i) v = e at hQ
  have q_side : V.int (sideOf i) = V.int e.side := by rw [← ev]; rfl
  have q_acknowledged : V.int 0 = V.int e.acknowledged := by rw [← ev]; rfl
  have q_next : V.int 0 = V.int e.next := by rw [← ev]; rfl
  have q_closing : V.bl false = V.bl e.closing := by rw [← ev]; rfl
  have q_finSent : V.bl false = V.bl e.finSent := by rw [← ev]; rfl
  have q_peerInitial : V.int 0 = V.int e.peerInitial := by rw [← ev]; rfl
  have q_expected : V.int 0 = V.int e.expected := by rw [← ev]; rfl
  have q_finReceived : V.bl false = V.bl e.finReceived := by rw [← ev]; rfl
  have q_peerWindow : V.int 0 = V.int e.peerWindow := by rw [← ev]; rfl
  have q_duplicates : V.int 0 = V.int e.duplicates := by rw [← ev]; rfl
  have q_retrans : V.int 0 = V.int e.retrans := by rw [← ev]; rfl
  have q_measured : V.bl false = V.bl e.measured := by rw [← ev]; rfl
  have q_smoothed : V.int 0 = V.int e.smoothed := by rw [← ev]; rfl
  have q_variation : V.int 0 = V.int e.variation := by rw [← ev]; rfl
  have q_written : V.int 0 = V.int e.written := by rw [← ev]; rfl
  have q_consumed : V.int 0 = V.int e.consumed := by rw [← ev]; rfl
  have q_initial : V.int v = V.int e.initial := by rw [← ev]; rfl
  have q_finPos : V.int (-1) = V.int e.finPos := by rw [← ev]; rfl
  have q_congestion : V.int (2 * n.size) = V.int e.congestion := by rw [← ev]; rfl
  have q_threshold : V.int n.buffer = V.int e.threshold := by rw [← ev]; rfl
  have q_timeout : V.int n.timeout = V.int e.timeout := by rw [← ev]; rfl
  have q_timer : V.non = tV e.timer := by rw [← ev]; rfl
  have e_u : e.unsent = [] := by rw [← ev]; rfl
  have e_p : e.parts = [] := by rw [← ev]; rfl
  have e_r : e.readable = [] := by rw [← ev]; rfl
  have e_e : e.early = [] := by rw [← ev]; rfl
  refine ⟨_, rfl, _, rfl, _, _, _, _, rfl, hp, M.tx.clE, M.tx.nE_side, (by show 0 < 1000; decide), ?_⟩
  have w1 := inE_side (e := e) (y := (⟨0, 0, 0, 0, []⟩ : ELay))
  rw [← q_side] at w1
  rw [w1]
  generalize e1 : upd _ _ _ = H1
  have k1 := KT.set (T := T) e1
  obtain ⟨h1, _⟩ := keep_upd e1
  have hs1 := k1.1 _ _ hs nsp
  have K1 := k1
  refine ⟨_, rfl, _, _, _, _, _, rfl, hs1, M.tx.clS, M.tx.nS_initials, lkS_initials, _, rfl, ini, _, sideOf i, _, rfl, rfl, SqL.of (k1.1 _ _ hi nip), hat, _, rfl, _, _, _, _, rfl, h1, M.tx.clE, M.tx.nE_initial, take_len _ (by decide), ?_⟩
  have w2 := inE_initial (e := e) (y := (⟨0, 0, 0, 0, []⟩ : ELay))
  rw [← q_initial] at w2
  rw [w2]
  generalize e2 : upd _ _ _ = H2
  have k2 := KT.set (T := T) e2
  obtain ⟨h2, _⟩ := keep_upd e2
  have hs2 := k2.1 _ _ hs1 nsp
  have K2 := K1.trans k2
  have k2i := k2.1 _ _ (k1.1 _ _ hi nip) nip
  refine ⟨_, rfl, _, _, rfl, rfl, _, rfl, ?_⟩
  have e_s : (if sideOf i = 0 then (0 : Int) else 1) = e.state := by rw [← ev]; rfl
  refine ifD (c := sideOf i = 0) (fun c => ?_) (fun c => ?_)
  all_goals
    first | rw [if_pos c] at e_s | rw [if_neg c] at e_s
    refine ⟨_, rfl, _, _, _, _, rfl, h2, M.tx.clE, M.tx.nE_state, take_len _ (by decide), ?_⟩
    have w3 := inE_state (e := e) (y := (⟨0, 0, 0, 0, []⟩ : ELay))
    rw [← e_s] at w3
    rw [w3]
    generalize e3 : upd _ _ _ = H3
    have k3 := KT.set (T := T) e3
    obtain ⟨h3, _⟩ := keep_upd e3
    have hs3 := k3.1 _ _ hs2 nsp
    have K3 := K2.trans k3
    refine ⟨_, rfl, _, _, _, _, rfl, h3, M.tx.clE, M.tx.nE_acknowledged, take_len _ (by decide), ?_⟩
    have w4 := inE_acknowledged (e := e) (y := (⟨0, 0, 0, 0, []⟩ : ELay))
    rw [← q_acknowledged] at w4
    rw [w4]
    generalize e4 : upd _ _ _ = H4
    have k4 := KT.set (T := T) e4
    obtain ⟨h4, _⟩ := keep_upd e4
    have hs4 := k4.1 _ _ hs3 nsp
    have K4 := K3.trans k4
    refine ⟨_, rfl, _, _, _, _, rfl, h4, M.tx.clE, M.tx.nE_next_position, take_len _ (by decide), ?_⟩
    have w5 := inE_next_position (e := e) (y := (⟨0, 0, 0, 0, []⟩ : ELay))
    rw [← q_next] at w5
    rw [w5]
    generalize e5 : upd _ _ _ = H5
    have k5 := KT.set (T := T) e5
    obtain ⟨h5, _⟩ := keep_upd e5
    have hs5 := k5.1 _ _ hs4 nsp
    have K5 := K4.trans k5
    refine ⟨by show 0 ≤ sizeLine; decide, fun un w_un => ?_⟩
    generalize f6 : upd _ _ _ = G6
    have n_un : un ≠ p := fun z => by rw [z, h5] at w_un; cases w_un
    obtain ⟨g6, u6, t6, _⟩ := KT.new (p := p) (T := T) .frz w_un f6
    have a_un : At G6 (rtg H5 T un .frz) un (.lst []) .frz := ⟨u6, t6⟩
    have hp6 := g6.1
    have hG6 := keep_new w_un f6 h5
    have sG6 := g6.1 _ _ hs5 nsp
    have KG6 := K5.trans g6
    generalize rtg H5 T un .frz = T6 at *
    rw [show (fE e (⟨0, 0, 0, 0, []⟩ : ELay)).take 5 = (fE e (⟨un, 0, 0, 0, []⟩ : ELay)).take 5 from rfl] at hG6
    refine ⟨_, rfl, _, _, _, _, rfl, hG6, M.tx.clE, M.tx.nE_unsent, take_len _ (by decide), ?_⟩
    rw [inE_unsent (e := e) (y := (⟨un, 0, 0, 0, []⟩ : ELay))]
    generalize e6 : upd _ _ _ = H6
    have k6 := KT.set (T := T6) e6
    obtain ⟨h6, _⟩ := keep_upd e6
    have hs6 := k6.1 _ _ sG6 nsp
    have K6 := KG6.trans k6
    have a_un := a_un.kt k6 n_un
    refine ⟨by show 0 ≤ sizeLine; decide, fun pts w_pts => ?_⟩
    generalize f7 : upd _ _ _ = G7
    have n_pts : pts ≠ p := fun z => by rw [z, h6] at w_pts; cases w_pts
    obtain ⟨g7, u7, t7, _⟩ := KT.new (p := p) (T := T6) (.pts i) w_pts f7
    have a_pts : At G7 (rtg H6 T6 pts (.pts i)) pts (.lst []) (.pts i) := ⟨u7, t7⟩
    have a_un := a_un.kt g7 n_un
    have hp7 := g7.1
    have hG7 := keep_new w_pts f7 h6
    have sG7 := g7.1 _ _ hs6 nsp
    have KG7 := K6.trans g7
    generalize rtg H6 T6 pts (.pts i) = T7 at *
    rw [show (fE e (⟨un, 0, 0, 0, []⟩ : ELay)).take 6 = (fE e (⟨un, pts, 0, 0, []⟩ : ELay)).take 6 from rfl] at hG7
    refine ⟨_, rfl, _, _, _, _, rfl, hG7, M.tx.clE, M.tx.nE_parts, take_len _ (by decide), ?_⟩
    rw [inE_parts (e := e) (y := (⟨un, pts, 0, 0, []⟩ : ELay))]
    generalize e7 : upd _ _ _ = H7
    have k7 := KT.set (T := T7) e7
    obtain ⟨h7, _⟩ := keep_upd e7
    have hs7 := k7.1 _ _ sG7 nsp
    have K7 := KG7.trans k7
    have a_un := a_un.kt k7 n_un
    have a_pts := a_pts.kt k7 n_pts
    refine ⟨_, rfl, _, _, _, _, rfl, h7, M.tx.clE, M.tx.nE_closing, take_len _ (by decide), ?_⟩
    have w8 := inE_closing (e := e) (y := (⟨un, pts, 0, 0, []⟩ : ELay))
    rw [← q_closing] at w8
    rw [w8]
    generalize e8 : upd _ _ _ = H8
    have k8 := KT.set (T := T7) e8
    obtain ⟨h8, _⟩ := keep_upd e8
    have hs8 := k8.1 _ _ hs7 nsp
    have K8 := K7.trans k8
    have a_un := a_un.kt k8 n_un
    have a_pts := a_pts.kt k8 n_pts
    refine ⟨_, rfl, _, _, _, _, rfl, h8, M.tx.clE, M.tx.nE_fin_sent, take_len _ (by decide), ?_⟩
    have w9 := inE_fin_sent (e := e) (y := (⟨un, pts, 0, 0, []⟩ : ELay))
    rw [← q_finSent] at w9
    rw [w9]
    generalize e9 : upd _ _ _ = H9
    have k9 := KT.set (T := T7) e9
    obtain ⟨h9, _⟩ := keep_upd e9
    have hs9 := k9.1 _ _ hs8 nsp
    have K9 := K8.trans k9
    have a_un := a_un.kt k9 n_un
    have a_pts := a_pts.kt k9 n_pts
    refine ⟨_, rfl, _, _, _, _, rfl, h9, M.tx.clE, M.tx.nE_peer_initial, take_len _ (by decide), ?_⟩
    have w10 := inE_peer_initial (e := e) (y := (⟨un, pts, 0, 0, []⟩ : ELay))
    rw [← q_peerInitial] at w10
    rw [w10]
    generalize e10 : upd _ _ _ = H10
    have k10 := KT.set (T := T7) e10
    obtain ⟨h10, _⟩ := keep_upd e10
    have hs10 := k10.1 _ _ hs9 nsp
    have K10 := K9.trans k10
    have a_un := a_un.kt k10 n_un
    have a_pts := a_pts.kt k10 n_pts
    refine ⟨_, rfl, _, _, _, _, rfl, h10, M.tx.clE, M.tx.nE_expected, take_len _ (by decide), ?_⟩
    have w11 := inE_expected (e := e) (y := (⟨un, pts, 0, 0, []⟩ : ELay))
    rw [← q_expected] at w11
    rw [w11]
    generalize e11 : upd _ _ _ = H11
    have k11 := KT.set (T := T7) e11
    obtain ⟨h11, _⟩ := keep_upd e11
    have hs11 := k11.1 _ _ hs10 nsp
    have K11 := K10.trans k11
    have a_un := a_un.kt k11 n_un
    have a_pts := a_pts.kt k11 n_pts
    refine ⟨by show 0 ≤ sizeLine; decide, fun rd w_rd => ?_⟩
    generalize f12 : upd _ _ _ = G12
    have n_rd : rd ≠ p := fun z => by rw [z, h11] at w_rd; cases w_rd
    obtain ⟨g12, u12, t12, _⟩ := KT.new (p := p) (T := T7) (.rd i) w_rd f12
    have a_rd : At G12 (rtg H11 T7 rd (.rd i)) rd (.lst []) (.rd i) := ⟨u12, t12⟩
    have a_un := a_un.kt g12 n_un
    have a_pts := a_pts.kt g12 n_pts
    have hp12 := g12.1
    have hG12 := keep_new w_rd f12 h11
    have sG12 := g12.1 _ _ hs11 nsp
    have KG12 := K11.trans g12
    generalize rtg H11 T7 rd (.rd i) = T12 at *
    rw [show (fE e (⟨un, pts, 0, 0, []⟩ : ELay)).take 11 = (fE e (⟨un, pts, rd, 0, []⟩ : ELay)).take 11 from rfl] at hG12
    refine ⟨_, rfl, _, _, _, _, rfl, hG12, M.tx.clE, M.tx.nE_readable, take_len _ (by decide), ?_⟩
    rw [inE_readable (e := e) (y := (⟨un, pts, rd, 0, []⟩ : ELay))]
    generalize e12 : upd _ _ _ = H12
    have k12 := KT.set (T := T12) e12
    obtain ⟨h12, _⟩ := keep_upd e12
    have hs12 := k12.1 _ _ sG12 nsp
    have K12 := KG12.trans k12
    have a_un := a_un.kt k12 n_un
    have a_pts := a_pts.kt k12 n_pts
    have a_rd := a_rd.kt k12 n_rd
    intro ea w_ea
    generalize f13 : upd _ _ _ = G13
    have n_ea : ea ≠ p := fun z => by rw [z, h12] at w_ea; cases w_ea
    obtain ⟨g13, u13, t13, _⟩ := KT.new (p := p) (T := T12) (.ea i) w_ea f13
    have a_ea : At G13 (rtg H12 T12 ea (.ea i)) ea (.dK []) (.ea i) := ⟨u13, t13⟩
    have a_un := a_un.kt g13 n_un
    have a_pts := a_pts.kt g13 n_pts
    have a_rd := a_rd.kt g13 n_rd
    have hp13 := g13.1
    have hG13 := keep_new w_ea f13 h12
    have sG13 := g13.1 _ _ hs12 nsp
    have KG13 := K12.trans g13
    generalize rtg H12 T12 ea (.ea i) = T13 at *
    rw [show (fE e (⟨un, pts, rd, 0, []⟩ : ELay)).take 12 = (fE e (⟨un, pts, rd, ea, []⟩ : ELay)).take 12 from rfl] at hG13
    refine ⟨_, rfl, _, _, _, _, rfl, hG13, M.tx.clE, M.tx.nE_early, take_len _ (by decide), ?_⟩
    rw [inE_early (e := e) (y := (⟨un, pts, rd, ea, []⟩ : ELay))]
    generalize e13 : upd _ _ _ = H13
    have k13 := KT.set (T := T13) e13
    obtain ⟨h13, _⟩ := keep_upd e13
    have hs13 := k13.1 _ _ sG13 nsp
    have K13 := KG13.trans k13
    have a_un := a_un.kt k13 n_un
    have a_pts := a_pts.kt k13 n_pts
    have a_rd := a_rd.kt k13 n_rd
    have a_ea := a_ea.kt k13 n_ea
    refine ⟨_, rfl, _, _, _, _, rfl, h13, M.tx.clE, M.tx.nE_fin_position, take_len _ (by decide), ?_⟩
    have w14 := inE_fin_position (e := e) (y := (⟨un, pts, rd, ea, []⟩ : ELay))
    rw [← q_finPos] at w14
    rw [w14]
    generalize e14 : upd _ _ _ = H14
    have k14 := KT.set (T := T13) e14
    obtain ⟨h14, _⟩ := keep_upd e14
    have hs14 := k14.1 _ _ hs13 nsp
    have K14 := K13.trans k14
    have a_un := a_un.kt k14 n_un
    have a_pts := a_pts.kt k14 n_pts
    have a_rd := a_rd.kt k14 n_rd
    have a_ea := a_ea.kt k14 n_ea
    refine ⟨_, rfl, _, _, _, _, rfl, h14, M.tx.clE, M.tx.nE_fin_received, take_len _ (by decide), ?_⟩
    have w15 := inE_fin_received (e := e) (y := (⟨un, pts, rd, ea, []⟩ : ELay))
    rw [← q_finReceived] at w15
    rw [w15]
    generalize e15 : upd _ _ _ = H15
    have k15 := KT.set (T := T13) e15
    obtain ⟨h15, _⟩ := keep_upd e15
    have hs15 := k15.1 _ _ hs14 nsp
    have K15 := K14.trans k15
    have a_un := a_un.kt k15 n_un
    have a_pts := a_pts.kt k15 n_pts
    have a_rd := a_rd.kt k15 n_rd
    have a_ea := a_ea.kt k15 n_ea
    refine ⟨_, rfl, _, _, _, _, rfl, h15, M.tx.clE, M.tx.nE_peer_window, take_len _ (by decide), ?_⟩
    have w16 := inE_peer_window (e := e) (y := (⟨un, pts, rd, ea, []⟩ : ELay))
    rw [← q_peerWindow] at w16
    rw [w16]
    generalize e16 : upd _ _ _ = H16
    have k16 := KT.set (T := T13) e16
    obtain ⟨h16, _⟩ := keep_upd e16
    have hs16 := k16.1 _ _ hs15 nsp
    have K16 := K15.trans k16
    have a_un := a_un.kt k16 n_un
    have a_pts := a_pts.kt k16 n_pts
    have a_rd := a_rd.kt k16 n_rd
    have a_ea := a_ea.kt k16 n_ea
    refine ⟨_, rfl, _, _, _, _, _, rfl, hs16, M.tx.clS, M.tx.nS_segment_size, lkS_segment_size, 2, _, rfl, rfl, .inl ⟨by decide, by decide⟩, _, rfl, _, _, _, _, rfl, h16, M.tx.clE, M.tx.nE_congestion, take_len _ (by decide), ?_⟩
    have w17 := inE_congestion (e := e) (y := (⟨un, pts, rd, ea, []⟩ : ELay))
    rw [← q_congestion] at w17
    rw [w17]
    generalize e17 : upd _ _ _ = H17
    have k17 := KT.set (T := T13) e17
    obtain ⟨h17, _⟩ := keep_upd e17
    have hs17 := k17.1 _ _ hs16 nsp
    have K17 := K16.trans k17
    have a_un := a_un.kt k17 n_un
    have a_pts := a_pts.kt k17 n_pts
    have a_rd := a_rd.kt k17 n_rd
    have a_ea := a_ea.kt k17 n_ea
    refine ⟨_, rfl, _, _, _, _, _, rfl, hs17, M.tx.clS, M.tx.nS_buffer, lkS_buffer, _, rfl, _, _, _, _, rfl, h17, M.tx.clE, M.tx.nE_threshold, take_len _ (by decide), ?_⟩
    have w18 := inE_threshold (e := e) (y := (⟨un, pts, rd, ea, []⟩ : ELay))
    rw [← q_threshold] at w18
    rw [w18]
    generalize e18 : upd _ _ _ = H18
    have k18 := KT.set (T := T13) e18
    obtain ⟨h18, _⟩ := keep_upd e18
    have hs18 := k18.1 _ _ hs17 nsp
    have K18 := K17.trans k18
    have a_un := a_un.kt k18 n_un
    have a_pts := a_pts.kt k18 n_pts
    have a_rd := a_rd.kt k18 n_rd
    have a_ea := a_ea.kt k18 n_ea
    refine ⟨_, rfl, _, _, _, _, _, rfl, hs18, M.tx.clS, M.tx.nS_timeout, lkS_timeout, _, rfl, _, _, _, _, rfl, h18, M.tx.clE, M.tx.nE_timeout, take_len _ (by decide), ?_⟩
    have w19 := inE_timeout (e := e) (y := (⟨un, pts, rd, ea, []⟩ : ELay))
    rw [← q_timeout] at w19
    rw [w19]
    generalize e19 : upd _ _ _ = H19
    have k19 := KT.set (T := T13) e19
    obtain ⟨h19, _⟩ := keep_upd e19
    have hs19 := k19.1 _ _ hs18 nsp
    have K19 := K18.trans k19
    have a_un := a_un.kt k19 n_un
    have a_pts := a_pts.kt k19 n_pts
    have a_rd := a_rd.kt k19 n_rd
    have a_ea := a_ea.kt k19 n_ea
    refine ⟨_, rfl, _, _, _, _, rfl, h19, M.tx.clE, M.tx.nE_timer, take_len _ (by decide), ?_⟩
    have w20 := inE_timer (e := e) (y := (⟨un, pts, rd, ea, []⟩ : ELay))
    rw [← q_timer] at w20
    rw [w20]
    generalize e20 : upd _ _ _ = H20
    have k20 := KT.set (T := T13) e20
    obtain ⟨h20, _⟩ := keep_upd e20
    have hs20 := k20.1 _ _ hs19 nsp
    have K20 := K19.trans k20
    have a_un := a_un.kt k20 n_un
    have a_pts := a_pts.kt k20 n_pts
    have a_rd := a_rd.kt k20 n_rd
    have a_ea := a_ea.kt k20 n_ea
    refine ⟨_, rfl, _, _, _, _, rfl, h20, M.tx.clE, M.tx.nE_duplicates, take_len _ (by decide), ?_⟩
    have w21 := inE_duplicates (e := e) (y := (⟨un, pts, rd, ea, []⟩ : ELay))
    rw [← q_duplicates] at w21
    rw [w21]
    generalize e21 : upd _ _ _ = H21
    have k21 := KT.set (T := T13) e21
    obtain ⟨h21, _⟩ := keep_upd e21
    have hs21 := k21.1 _ _ hs20 nsp
    have K21 := K20.trans k21
    have a_un := a_un.kt k21 n_un
    have a_pts := a_pts.kt k21 n_pts
    have a_rd := a_rd.kt k21 n_rd
    have a_ea := a_ea.kt k21 n_ea
    refine ⟨_, rfl, _, _, _, _, rfl, h21, M.tx.clE, M.tx.nE_retransmissions, take_len _ (by decide), ?_⟩
    have w22 := inE_retransmissions (e := e) (y := (⟨un, pts, rd, ea, []⟩ : ELay))
    rw [← q_retrans] at w22
    rw [w22]
    generalize e22 : upd _ _ _ = H22
    have k22 := KT.set (T := T13) e22
    obtain ⟨h22, _⟩ := keep_upd e22
    have hs22 := k22.1 _ _ hs21 nsp
    have K22 := K21.trans k22
    have a_un := a_un.kt k22 n_un
    have a_pts := a_pts.kt k22 n_pts
    have a_rd := a_rd.kt k22 n_rd
    have a_ea := a_ea.kt k22 n_ea
    refine ⟨_, rfl, _, _, _, _, rfl, h22, M.tx.clE, M.tx.nE_measured, take_len _ (by decide), ?_⟩
    have w23 := inE_measured (e := e) (y := (⟨un, pts, rd, ea, []⟩ : ELay))
    rw [← q_measured] at w23
    rw [w23]
    generalize e23 : upd _ _ _ = H23
    have k23 := KT.set (T := T13) e23
    obtain ⟨h23, _⟩ := keep_upd e23
    have hs23 := k23.1 _ _ hs22 nsp
    have K23 := K22.trans k23
    have a_un := a_un.kt k23 n_un
    have a_pts := a_pts.kt k23 n_pts
    have a_rd := a_rd.kt k23 n_rd
    have a_ea := a_ea.kt k23 n_ea
    refine ⟨_, rfl, _, _, _, _, rfl, h23, M.tx.clE, M.tx.nE_smoothed, take_len _ (by decide), ?_⟩
    have w24 := inE_smoothed (e := e) (y := (⟨un, pts, rd, ea, []⟩ : ELay))
    rw [← q_smoothed] at w24
    rw [w24]
    generalize e24 : upd _ _ _ = H24
    have k24 := KT.set (T := T13) e24
    obtain ⟨h24, _⟩ := keep_upd e24
    have hs24 := k24.1 _ _ hs23 nsp
    have K24 := K23.trans k24
    have a_un := a_un.kt k24 n_un
    have a_pts := a_pts.kt k24 n_pts
    have a_rd := a_rd.kt k24 n_rd
    have a_ea := a_ea.kt k24 n_ea
    refine ⟨_, rfl, _, _, _, _, rfl, h24, M.tx.clE, M.tx.nE_variation, take_len _ (by decide), ?_⟩
    have w25 := inE_variation (e := e) (y := (⟨un, pts, rd, ea, []⟩ : ELay))
    rw [← q_variation] at w25
    rw [w25]
    generalize e25 : upd _ _ _ = H25
    have k25 := KT.set (T := T13) e25
    obtain ⟨h25, _⟩ := keep_upd e25
    have hs25 := k25.1 _ _ hs24 nsp
    have K25 := K24.trans k25
    have a_un := a_un.kt k25 n_un
    have a_pts := a_pts.kt k25 n_pts
    have a_rd := a_rd.kt k25 n_rd
    have a_ea := a_ea.kt k25 n_ea
    refine ⟨_, rfl, _, _, _, _, rfl, h25, M.tx.clE, M.tx.nE_written, take_len _ (by decide), ?_⟩
    have w26 := inE_written (e := e) (y := (⟨un, pts, rd, ea, []⟩ : ELay))
    rw [← q_written] at w26
    rw [w26]
    generalize e26 : upd _ _ _ = H26
    have k26 := KT.set (T := T13) e26
    obtain ⟨h26, _⟩ := keep_upd e26
    have hs26 := k26.1 _ _ hs25 nsp
    have K26 := K25.trans k26
    have a_un := a_un.kt k26 n_un
    have a_pts := a_pts.kt k26 n_pts
    have a_rd := a_rd.kt k26 n_rd
    have a_ea := a_ea.kt k26 n_ea
    refine ⟨_, rfl, _, _, _, _, rfl, h26, M.tx.clE, M.tx.nE_consumed, take_len _ (by decide), ?_⟩
    have w27 := inE_consumed (e := e) (y := (⟨un, pts, rd, ea, []⟩ : ELay))
    rw [← q_consumed] at w27
    rw [w27]
    generalize e27 : upd _ _ _ = H27
    have k27 := KT.set (T := T13) e27
    obtain ⟨h27, _⟩ := keep_upd e27
    have hs27 := k27.1 _ _ hs26 nsp
    have K27 := K26.trans k27
    have a_un := a_un.kt k27 n_un
    have a_pts := a_pts.kt k27 n_pts
    have a_rd := a_rd.kt k27 n_rd
    have a_ea := a_ea.kt k27 n_ea
    refine hQ H27 T13 ⟨un, pts, rd, ea, []⟩ K27 h27 ⟨by rw [e_u]; exact a_un.1, a_pts.1, e_p, fun _ h => (nomatch h), List.nodup_nil, by rw [e_r]; exact a_rd.1, by rw [e_e]; exact a_ea.1, a_un.2, a_pts.2, a_rd.2, a_ea.2⟩
/-- all stands -/
def KA (H : Hp) (T : Tm) (H' : Hp) (T' : Tm) : Prop := ∀ b u, H b = some u → H' b = some u ∧ T' b = T b
theorem KA.kt {p : Addr} {H H' : Hp} {T T' : Tm} (a : KA H T H' T') : KT p H T H' T' := ⟨fun b u h _ => (a b u h).1, fun b u h => ⟨⟨u, (a b u h).1⟩, (a b u h).2⟩⟩
theorem KA.trans {H H1 H2 : Hp} {T T1 T2 : Tm} (a : KA H T H1 T1) (b : KA H1 T1 H2 T2) : KA H T H2 T2 := fun c u h => by
  obtain ⟨h1, t1⟩ := a c u h
  obtain ⟨h2, t2⟩ := b c u h1
  exact ⟨h2, t2.trans t1⟩
theorem KA.same {H H' : Hp} {T : Tm} (s : Same H H') : KA H T H' T := fun b u h => ⟨s b u h, rfl⟩
theorem KA.kp {S : Tg → Prop} {H H' : Hp} {T T' : Tm} (a : KA H T H' T') : Kp S H T H' T' := fun p o h _ => a p o h
theorem KT.kp {p : Addr} {H H' : Hp} {T T' : Tm} {g : Tg} (k : KT p H T H' T') (t : T p = g) : Kp (fun x => x ≠ g) H T H' T' := fun b o h s => ⟨k.1 b o h (fun z => s (by rw [z]; exact t)), (k.2 b o h).2⟩
/-- a new instance, its maker runs on it alone -/
theorem KA.make {x dx : Addr} {H H' : Hp} {T T' : Tm} {o u : HO} {g : Tg} (nx : H x = none) (nd : H dx = none) (ndx : dx ≠ x) (k : KT x (upd (upd H dx o) x u) (rtg H T x g) H' T') : KA H T H' T' ∧ T' x = g := by
  have h0 : ∀ b v, H b = some v → upd (upd H dx o) x u b = some v := fun b v h => by rw [upd_ne (ne_of_none h nx), upd_ne (ne_of_none h nd)]; exact h
  refine ⟨fun b v h => ⟨k.1 b v (h0 b v h) (ne_of_none h nx), ((k.2 b v (h0 b v h)).2).trans (rtg_old nx h)⟩, ((k.2 x u upd_same).2).trans rtg_at⟩
theorem make_old {x dx b : Addr} {H : Hp} {o u v : HO} (nx : H x = none) (nd : H dx = none) (h : H b = some v) : upd (upd H dx o) x u b = some v := by rw [upd_ne (ne_of_none h nx), upd_ne (ne_of_none h nd)]; exact h
/-- the empty containers -/
def y0 : ELay := ⟨0, 0, 0, 0, []⟩
def sp_Link_init (K : PySem.W.Frag) : Sp := fun vs H Q _ => ∃ (T : Tm) (p dx st ds ini : Addr) (n : MNet) (v w : Int), vs = [.ref p, .ref st] ∧ TxC K ∧ H p = some (.ins (cL K) dx []) ∧ H st = some (.ins (cS K) ds (fS n ini)) ∧ H ini = some (.lst (n.ini.map V.int)) ∧ n.ini = [v, w] ∧
  (n.now = 0 ∧ n.segs = [] ∧ n.sent = 0 ∧ n.delivered = 0 ∧ n.lost = 0) ∧ T p = .lnk ∧ T st = .frz ∧ T ini = .frz ∧ ∀ H' T' L', L'.lk = p → RepL K H' T' L' ⟨n, newEnd n 0 v, newEnd n 1 w⟩ → KT p H T H' T' → Q .non H'
theorem sc_Link_init : FnScope ["self", "settings"] ["self", "settings"] (defScope s_Link_init) := ⟨rfl, rfl, rfl, by decide +kernel, rfl, by decide +kernel, by decide +kernel⟩
theorem ok_Link_init (D : DefsOk K mg) (I_Endpoint : OkI P w K mg base "Endpoint" 1 ["self", "side", "settings"] (sp_Endpoint_init K)) : OkI P w K mg base "Link" 3 ["self", "settings"] (sp_Link_init K) := by
  have M := D.m
  refine okI (st := s_Link_init) (N := ["self", "settings"]) D.d_Link_init D.mk_Link D.g_Link sc_Link_init (fun vs H Q E h => ?_) (fun _ _ _ _ _ _ us hl => match us, hl with | [_, _], _ => rfl) (fun cdv A outer s H vs Q E hr h => ?_)
  · obtain ⟨T, p, dx, st, ds, ini, n, v, w, rfl, tx, hp, hs, hi, hin, ⟨z1, z2, z3, z4, z5⟩, tp, ts, ti, hQ⟩ := h
    rfl
  obtain ⟨T, p, dx, st, ds, ini, n, v, w, rfl, tx, hp, hs, hi, hin, ⟨z1, z2, z3, z4, z5⟩, tp, ts, ti, hQ⟩ := h
  refine ⟨_, (pss_cons (ps_fld (pv 0) (pv 1) rfl)
      (pss_cons (ps_fld (pv 0) pe_int rfl)
      (pss_cons (ps_fld (pv 0) (pe_lst (pa_cons (c_make I_Endpoint (hr.mono (by decide)) rfl (pa_cons pe_int (pa_cons (pv 1) pa_nil))) (pa_cons (c_make I_Endpoint (hr.mono (by decide)) rfl (pa_cons pe_int (pa_cons (pv 1) pa_nil))) pa_nil))) rfl)
      (pss_cons (ps_fld (pv 0) (pe_lst pa_nil) rfl)
      (pss_cons (ps_fld (pv 0) pe_int rfl)
      (pss_cons (ps_fld (pv 0) pe_int rfl)
      (pss_one (ps_fld (pv 0) pe_int rfl)))))))), ?_⟩
  have nsp : st ≠ p := fun z => by rw [z, tp] at ts; cases ts
  have nip : ini ≠ p := fun z => by rw [z, tp] at ti; cases ti
  refine ⟨_, rfl, _, rfl, _, _, _, _, rfl, hp, M.tx.clL, M.tx.nL_settings, (by show 0 < 1000; decide), ?_⟩
  rw [inL_settings (n := n) (L := ⟨p, st, ini, 0, 0, 0, 0, false, [], y0, y0⟩)]
  generalize e1 : upd _ _ _ = H1
  have k1 := KT.set (T := T) e1
  obtain ⟨h1, _⟩ := keep_upd e1
  have w2 := inL_now (n := n) (L := ⟨p, st, ini, 0, 0, 0, 0, false, [], y0, y0⟩)
  rw [z1] at w2
  refine ⟨_, rfl, _, _, _, _, rfl, h1, M.tx.clL, M.tx.nL_now, take_len _ (by decide), ?_⟩
  rw [w2]
  generalize e2 : upd _ _ _ = H2
  have k2 := KT.set (T := T) e2
  obtain ⟨h2, _⟩ := keep_upd e2
  have K2 := k1.trans k2
  have hs2 := K2.1 _ _ hs nsp
  have hi2 := K2.1 _ _ hi nip
  -- the endpoints
  refine ⟨_, rfl, fun a da na nda nad => ?_⟩
  have npa : st ≠ a := fun z => by rw [z, na] at hs2; cases hs2
  refine ⟨rtg H2 T a (.ep false), false, a, da, st, ds, ini, n, v, rfl, upd_same, npa, make_old na nda hs2, make_old na nda hi2, by rw [hin]; rfl, fun H3 T3 y k3 h3 C3 => ⟨rfl, ?_⟩⟩
  obtain ⟨A3, ta3⟩ := KA.make na nda nad k3
  have hs3 := (A3 _ _ hs2).1
  have hi3 := (A3 _ _ hi2).1
  refine ⟨_, rfl, fun b db nb ndb nbd => ?_⟩
  have npb : st ≠ b := fun z => by rw [z, nb] at hs3; cases hs3
  refine ⟨rtg H3 T3 b (.ep true), true, b, db, st, ds, ini, n, w, rfl, upd_same, npb, make_old nb ndb hs3, make_old nb ndb hi3, by rw [hin]; rfl, fun H4 T4 z k4 h4 C4 => ⟨rfl, ?_⟩⟩
  obtain ⟨A4, tb4⟩ := KA.make nb ndb nbd k4
  have E3 : EndAt K H3 T3 false a y (newEnd n 0 v) := ⟨⟨da, h3⟩, ta3, C3⟩
  have E4a : EndAt K H4 T4 false a y (newEnd n 0 v) := E3.kp (S := fun _ => True) A4.kp trivial trivial trivial trivial trivial trivial
  have E4b : EndAt K H4 T4 true b z (newEnd n 1 w) := ⟨⟨db, h4⟩, tb4, C4⟩
  have K4 : KT p H T H4 T4 := K2.trans (A3.trans A4).kt
  have hp4 := (A4 _ _ (A3 _ _ h2).1).1
  have tp4 : T4 p = .lnk := by rw [(K4.2 _ _ hp).2]; exact tp
  -- the list of the endpoints
  refine ⟨by show 2 ≤ sizeLine; decide, fun q nq => ?_⟩
  generalize e5 : upd _ _ _ = H5
  obtain ⟨k5, u5, t5, s5⟩ := KT.new (p := p) (T := T4) .frz nq e5
  have A5 : KA H4 T4 H5 (rtg H4 T4 q .frz) := fun b u h => ⟨s5 b u h, (k5.2 b u h).2⟩
  generalize rtg H4 T4 q .frz = T5 at *
  have hp5 := s5 _ _ hp4
  have nqp : q ≠ p := fun z => by rw [z, hp4] at nq; cases nq
  have E5a : EndAt K H5 T5 false a y (newEnd n 0 v) := E4a.kp (S := fun _ => True) A5.kp trivial trivial trivial trivial trivial trivial
  have E5b : EndAt K H5 T5 true b z (newEnd n 1 w) := E4b.kp (S := fun _ => True) A5.kp trivial trivial trivial trivial trivial trivial
  have tp5 : T5 p = .lnk := (k5.2 _ _ hp4).2.trans tp4
  rw [show (fL n ⟨p, st, ini, 0, 0, 0, 0, false, [], y0, y0⟩).take 2 = (fL n ⟨p, st, ini, q, 0, a, b, false, [], y, z⟩).take 2 from rfl] at hp5
  refine ⟨_, rfl, _, _, _, _, rfl, hp5, M.tx.clL, M.tx.nL_ends, take_len _ (by decide), ?_⟩
  rw [inL_ends (n := n) (L := ⟨p, st, ini, q, 0, a, b, false, [], y, z⟩)]
  generalize e6 : upd _ _ _ = H6
  have k6 := KT.set (T := T5) e6
  obtain ⟨hp6, _⟩ := keep_upd e6
  have P6 := k6.kp tp5
  have E6a : EndAt K H6 T5 false a y (newEnd n 0 v) := E5a.kp P6 (by simp) (by simp) (by simp) (by simp) (by simp) (by simp)
  have E6b : EndAt K H6 T5 true b z (newEnd n 1 w) := E5b.kp P6 (by simp) (by simp) (by simp) (by simp) (by simp) (by simp)
  have Aq : At H6 T5 q (.lst [.ref a, .ref b]) .frz := At.kt ⟨u5, t5⟩ k6 nqp
  -- the list of the segments
  refine ⟨by show 0 ≤ sizeLine; decide, fun g ng => ?_⟩
  generalize e7 : upd _ _ _ = H7
  obtain ⟨k7, u7, t7, s7⟩ := KT.new (p := p) (T := T5) .seg ng e7
  have A7 : KA H6 T5 H7 (rtg H6 T5 g .seg) := fun b u h => ⟨s7 b u h, (k7.2 b u h).2⟩
  generalize rtg H6 T5 g .seg = T7 at *
  have hp7 := s7 _ _ hp6
  have ngp : g ≠ p := fun z => by rw [z, hp6] at ng; cases ng
  have E7a : EndAt K H7 T7 false a y (newEnd n 0 v) := E6a.kp (S := fun _ => True) A7.kp trivial trivial trivial trivial trivial trivial
  have E7b : EndAt K H7 T7 true b z (newEnd n 1 w) := E6b.kp (S := fun _ => True) A7.kp trivial trivial trivial trivial trivial trivial
  have tp7 : T7 p = .lnk := (k7.2 _ _ hp6).2.trans tp5
  rw [show (fL n ⟨p, st, ini, q, 0, a, b, false, [], y, z⟩).take 3 = (fL n ⟨p, st, ini, q, g, a, b, false, [], y, z⟩).take 3 from rfl] at hp7
  refine ⟨_, rfl, _, _, _, _, rfl, hp7, M.tx.clL, M.tx.nL_segments, take_len _ (by decide), ?_⟩
  rw [inL_segments (n := n) (L := ⟨p, st, ini, q, g, a, b, false, [], y, z⟩)]
  generalize e8 : upd _ _ _ = H8
  have k8 := KT.set (T := T7) e8
  obtain ⟨h8, _⟩ := keep_upd e8
  have w9 := inL_sent (n := n) (L := ⟨p, st, ini, q, g, a, b, false, [], y, z⟩)
  rw [z3] at w9
  refine ⟨_, rfl, _, _, _, _, rfl, h8, M.tx.clL, M.tx.nL_sent, take_len _ (by decide), ?_⟩
  rw [w9]
  generalize e9 : upd _ _ _ = H9
  have k9 := KT.set (T := T7) e9
  obtain ⟨h9, _⟩ := keep_upd e9
  have w10 := inL_delivered (n := n) (L := ⟨p, st, ini, q, g, a, b, false, [], y, z⟩)
  rw [z4] at w10
  refine ⟨_, rfl, _, _, _, _, rfl, h9, M.tx.clL, M.tx.nL_delivered, take_len _ (by decide), ?_⟩
  rw [w10]
  generalize e10 : upd _ _ _ = H10
  have k10 := KT.set (T := T7) e10
  obtain ⟨h10, _⟩ := keep_upd e10
  have w11 := inL_lost (n := n) (L := ⟨p, st, ini, q, g, a, b, false, [], y, z⟩)
  rw [z5] at w11
  refine ⟨_, rfl, _, _, _, _, rfl, h10, M.tx.clL, M.tx.nL_lost, take_len _ (by decide), ?_⟩
  rw [w11]
  generalize e11 : upd _ _ _ = H11
  have k11 := KT.set (T := T7) e11
  obtain ⟨h11, _⟩ := keep_upd e11
  have k811 := ((k8.trans k9).trans k10).trans k11
  have P11 := k811.kp tp7
  have Kall : KT p H T H11 T7 := (((K4.trans k5).trans k6).trans k7).trans k811
  have Fs : H11 st = some _ ∧ T7 st = .frz := ⟨Kall.1 _ _ hs nsp, (Kall.2 _ _ hs).2.trans ts⟩
  have Fi : H11 ini = some _ ∧ T7 ini = .frz := ⟨Kall.1 _ _ hi nip, (Kall.2 _ _ hi).2.trans ti⟩
  have Aq7 : At H11 T7 q (.lst [.ref a, .ref b]) .frz := (Aq.kt (p := p) k7 nqp).kt k811 nqp
  have Ag7 : At H11 T7 g (.lst []) .seg := At.kt ⟨u7, t7⟩ k811 ngp
  exact hQ H11 T7 ⟨p, st, ini, q, g, a, b, false, [], y, z⟩ rfl ⟨rfl, ⟨tx, ⟨dx, h11⟩, ⟨ds, Fs.1⟩, Fi.1, Aq7.1, Ag7.1, z2, fun _ h => (nomatch h), E7a.kp P11 (by simp) (by simp) (by simp) (by simp) (by simp) (by simp), E7b.kp P11 (by simp) (by simp) (by simp) (by simp) (by simp) (by simp), tp7, Fs.2, Fi.2, Aq7.2, Ag7.2⟩⟩ Kall
def sp_made_link (K : PySem.W.Frag) : Sp := fun vs H Q _ => ∃ (T : Tm) (p : Addr) (m b t k i j : Int), vs = [.ref p] ∧ H p = some (.lst ([m, b, t, k, i, j].map V.int)) ∧ Tabs K ∧ (madeLink [m, b, t, k, i, j] = none → ∀ H', Same H H' → Q .non H') ∧
  ∀ l, madeLink [m, b, t, k, i, j] = some l → ∀ H' T' L', RepL K H' T' L' l → KA H T H' T' → Q (.ref L'.lk) H'
theorem fits_step {xs : List Int} {ls : List (Int × Int)} {i : Nat} {x lo hi : Int} (hx : xs[i]? = some x) (hl : ls[i]? = some (lo, hi)) : fits (xs.drop i) (ls.drop i) = if lo ≤ x ∧ x ≤ hi then fits (xs.drop (i + 1)) (ls.drop (i + 1)) else false := by
  obtain ⟨l1, rfl⟩ := List.getElem?_eq_some_iff.mp hx
  obtain ⟨l2, e2⟩ := List.getElem?_eq_some_iff.mp hl
  rw [List.drop_eq_getElem_cons l1, List.drop_eq_getElem_cons l2, e2]
  rfl
theorem sc_made_link : FnScope ["numbers", "number", "limits"] ["numbers"] (defScope s_made_link) := ⟨rfl, rfl, rfl, by decide +kernel, rfl, by decide +kernel, by decide +kernel⟩
theorem ok_made_link (D : DefsOk K mg) (I_Link : OkI P w K mg base "Link" 3 ["self", "settings"] (sp_Link_init K)) (I_Settings : OkI P w K mg base "Settings" 1 ["self", "segment_size", "buffer", "timeout", "attempts", "initials"] (sp_Settings_init K)) : OkF P w K mg base "made_link" 5 ["numbers"] (sp_made_link K) := by
  have M := D.m
  refine okF (st := s_made_link) (N := ["numbers", "number", "limits"]) D.d_made_link D.g_made_link sc_made_link (fun vs H Q E h => ?_) (fun _ _ _ _ _ _ us hl => match us, hl with | [_], _ => rfl) (fun cdv A outer s H vs Q E hr h => ?_)
  · obtain ⟨T, p, m, b, t, k, i, j, rfl, hp, TB, hN, hS⟩ := h
    rfl
  obtain ⟨T, p, m, b, t, k, i, j, rfl, hp, TB, hN, hS⟩ := h
  refine ⟨_, (pss_cons (ps_for PassesOwn.never rfl (pi_zipM rfl M.b_zip (pa_cons (pv 0) (pa_cons (pe_gref M.t_LIMITS) pa_nil))) (pg_tup rfl (pgs_cons (pg_name (i := 1) sc_made_link.nd rfl (Or.inl rfl)) (pgs_cons (pg_name (i := 2) sc_made_link.nd rfl (Or.inl rfl)) pgs_nil))) (pss_one (ps_if (pt_not (pt_chain op_le op_le (pe_ix ix_tup (pv 2) pe_int (fun _ _ => rfl)) (pv 1) (pe_ix ix_tup (pv 2) pe_int (fun _ _ => rfl)))) (pss_one (ps_ret pe_non)) pss_nil)))
      (pss_one (ps_ret (c_make I_Link (hr.mono (by decide)) rfl (pa_cons (c_make I_Settings (hr.mono (by decide)) rfl (pa_cons (pe_ix ix_list (pv 0) pe_int (fun _ _ => rfl)) (pa_cons (pe_ix ix_list (pv 0) pe_int (fun _ _ => rfl)) (pa_cons (pe_ix ix_list (pv 0) pe_int (fun _ _ => rfl)) (pa_cons (pe_ix ix_list (pv 0) pe_int (fun _ _ => rfl)) (pa_cons (pe_slice sl_list (pv 0) (po_some pe_int) po_none) pa_nil)))))) pa_nil))))), ?_⟩
  obtain ⟨as, la, qa, qi⟩ := TB.l
  refine ⟨_, rfl, p, _, [m, b, t, k, i, j].map V.int, as.map V.ref, rfl, SqL.of hp, qa H, ?_⟩
  refine for_zipM (K := K) (a := p) (by rw [List.length_map, List.length_map, la]; rfl) (fun c σ H' => (∃ v1 v2, σ = [some (.ref p), v1, v2]) ∧ Same H H' ∧ fits ([m, b, t, k, i, j].drop c) (lims.drop c) = fits [m, b, t, k, i, j] lims) ⟨⟨none, none, rfl⟩, fun _ _ h => h, rfl⟩ (fun c σ H' h => ⟨SqL.of (h.2.1 _ _ hp), qa H'⟩) ?_ ?_
  · rintro c x y R σ H' hx hy ⟨⟨v1, v2, rfl⟩, s, hf⟩ nR
    rw [List.getElem?_map] at hx hy
    obtain ⟨x, gx, rfl⟩ := Option.map_eq_some_iff.mp hx
    obtain ⟨y, gy, rfl⟩ := Option.map_eq_some_iff.mp hy
    have hl : c < lims.length := by
      have := (List.getElem?_eq_some_iff.mp gy).1
      rw [la] at this
      exact this
    have hlc : lims[c]? = some lims[c] := List.getElem?_eq_getElem hl
    generalize lims[c] = r at hlc
    obtain ⟨lo, hi⟩ := r
    have qy := qi c y (lo, hi) gy hlc
    have st := fits_step gx hlc
    refine ⟨R, [.int x, .ref y], rfl, SqT.of upd_same, rfl, _, _, rfl, _, _, rfl, rfl, ?_⟩
    generalize e1 : upd _ _ _ = H1
    have s1 : Same H H1 := s.trans (by rw [← e1]; exact same_upd nR)
    refine ⟨_, rfl, y, _, 0, _, rfl, rfl, qy H1, at_of (j := 0) rfl rfl, _, rfl, lo, x, rfl, rfl, _, rfl, ?_⟩
    refine ifD (c := lo ≤ x) (fun c1 => ?_) (fun c1 => ?_)
    · refine ⟨_, rfl, y, _, 1, _, rfl, rfl, qy H1, at_of (j := 1) rfl rfl, x, hi, rfl, rfl, _, rfl, ?_⟩
      refine ifN (c := x ≤ hi) (fun c2 => ?_) (fun c2 => ?_)
      · refine hN ?_ H1 s1
        show (if fits [m, b, t, k, i, j] lims = true then some _ else none) = _
        rw [if_neg (by rw [← hf, st, if_neg (fun z => c2 z.2)]; simp)]
      · refine ⟨⟨_, _, rfl⟩, s1, ?_⟩
        rw [← hf, st, if_pos ⟨c1, c2⟩]
    · refine ⟨_, rfl, iteT (hN ?_ H1 s1)⟩
      show (if fits [m, b, t, k, i, j] lims = true then some _ else none) = _
      rw [if_neg (by rw [← hf, st, if_neg (fun z => c1 z.1)]; simp)]
  · rintro σ H1 ⟨⟨v1, v2, rfl⟩, s, hf⟩
    have ok : fits [m, b, t, k, i, j] lims = true := hf.symm.trans rfl
    have hp1 := s _ _ hp
    refine ⟨_, rfl, p, _, 0, _, rfl, rfl, SqL.of hp1, at_of (j := 0) rfl rfl, _, rfl, p, _, 1, _, rfl, rfl, SqL.of hp1, at_of (j := 1) rfl rfl, _, rfl, p, _, 2, _, rfl, rfl, SqL.of hp1, at_of (j := 2) rfl rfl, _, rfl, p, _, 3, _, rfl, rfl, SqL.of hp1, at_of (j := 3) rfl rfl, _, rfl, 4, rfl, p, _, rfl, SqL.of hp1, fun q nq => ?_⟩
    generalize en : (⟨m, b, t, k, [i, j], 0, [], 0, 0, 0⟩ : MNet) = n
    have ml : madeLink [m, b, t, k, i, j] = some ⟨n, newEnd n 0 i, newEnd n 1 j⟩ := by
      show (if fits [m, b, t, k, i, j] lims = true then some _ else none) = _
      rw [if_pos ok, en]
    have ei : n.ini = [i, j] := by rw [← en]
    rw [show cutV ([m, b, t, k, i, j].map V.int) (some 4) none = n.ini.map V.int by rw [cut_drop (f := V.int) _ (by decide), ei]; rfl]
    generalize e2 : upd _ _ _ = H2
    obtain ⟨k2, u2, t2, s2⟩ := KT.new (p := p) (T := T) .frz nq e2
    have A2 : KA H T H2 (rtg H1 T q .frz) := (KA.same s).trans fun b u h => ⟨s2 b u h, (k2.2 b u h).2⟩
    generalize rtg H1 T q .frz = T2 at *
    refine fun x dx nx nd ndx => ⟨rtg H2 T2 x .frz, x, dx, q, n, by rw [← en]; rfl, upd_same, fun H3 k3 h3 => ⟨rfl, ?_⟩⟩
    obtain ⟨A3, tx3⟩ := KA.make nx nd ndx k3
    have hq3 := A3 _ _ u2
    generalize rtg H2 T2 x .frz = T3 at *
    refine fun z dz nz nd2 ndz => ?_
    refine ⟨rtg H3 T3 z .lnk, z, dz, x, dx, q, n, i, j, rfl, M.tx, upd_same, make_old nz nd2 h3, make_old nz nd2 hq3.1, ei, by rw [← en]; exact ⟨rfl, rfl, rfl, rfl, rfl⟩, rtg_at, (rtg_old nz h3).trans tx3, (rtg_old nz hq3.1).trans (hq3.2.trans t2), fun H4 T4 L4 l4 R4 k4 => ⟨rfl, ?_⟩⟩
    obtain ⟨A4, _⟩ := KA.make nz nd2 ndz k4
    have := hS _ ml H4 T4 L4 R4 ((A2.trans A3).trans A4)
    rw [l4] at this
    exact this
end
end Ws
set_option Elab.async false
set_option linter.all false
set_option maxRecDepth 100000
set_option maxHeartbeats 4000000
namespace Ws
open PySem PySem.Spec PyProof.Rows L2 Wt

section
variable {P : Program} {w : World} {K : PySem.W.Frag} {mg : Str → Option Value} {base : Heap}
theorem AnsQ.bind {α : Type} {K : PySem.W.Frag} {H : Hp} {T : Tm} {L : Lay} {x : Option α} {f : α → Ans} {Q : VK} (A : AnsQ K H T L (x.bind f) Q) : ∃ y, x = some y ∧ AnsQ K H T L (f y) Q := by
  obtain ⟨r, h, k⟩ := A
  obtain ⟨y, h1, h2⟩ := bind_some h
  exact ⟨y, h1, r, h2, k⟩
theorem AnsQ.non {K : PySem.W.Frag} {H : Hp} {T : Tm} {L : Lay} {Q : VK} (A : AnsQ K H T L none Q) : False := by
  obtain ⟨r, h, _⟩ := A
  cases h
theorem AnsQ.if_ {K : PySem.W.Frag} {H : Hp} {T : Tm} {L : Lay} {Q : VK} {c : Prop} [Decidable c] {f : Ans} (A : AnsQ K H T L (if c then f else none) Q) : c ∧ AnsQ K H T L f Q := by
  split at A
  · rename_i h
    exact ⟨h, A⟩
  · exact A.non.elim
/-- behind a step -/
theorem AnsQ.next {K : PySem.W.Frag} {H H1 : Hp} {T T1 : Tm} {L L1 : Lay} {Q : VK} {f : Ans} (A : AnsQ K H T L f Q) (N : NxL H T L H1 T1 L1) : AnsQ K H1 T1 L1 f Q := by
  obtain ⟨r, h, k⟩ := A
  exact ⟨r, h, fun H' T' L' p R N' hp hn => k H' T' L' p R (N.trans N') hp (N.2.2.2.back hn)⟩
theorem in3 {s a b c : Int} : inV (.int s) [.int a, .int b, .int c] = (decide (s = a) || (decide (s = b) || decide (s = c))) := by
  unfold inV
  rw [List.any_cons, List.any_cons, List.any_cons, List.any_nil, Bool.or_false]
  have h : ∀ x : Int, eqV (.int x) (.int s) = decide (s = x) := fun x => by
    show decide (x = s) = decide (s = x)
    rw [decide_eq_decide]
    exact eq_comm
  rw [h, h, h]
def sp_is_barred (K : PySem.W.Frag) : Sp := fun vs H Q _ => ∃ T L n e o, vs = [.ref L.a] ∧ Rep K H T L n e o ∧ ∀ H', Same H H' → Q (.bl (barred e)) H'
theorem sc_is_barred : FnScope ["endpoint"] ["endpoint"] (defScope s_is_barred) := ⟨rfl, rfl, rfl, by decide +kernel, rfl, by decide +kernel, by decide +kernel⟩
theorem ok_is_barred (D : DefsOk K mg)  : OkF P w K mg base "is_barred" 1 ["endpoint"] (sp_is_barred K) := by
  have M := D.m
  refine okF (st := s_is_barred) (N := ["endpoint"]) D.d_is_barred D.g_is_barred sc_is_barred (fun vs H Q E h => ?_) (fun _ _ _ _ _ _ us hl => match us, hl with | [_], _ => rfl) (fun cdv A outer s H vs Q E hr h => ?_)
  · obtain ⟨T, L, n, e, o, rfl, R, hQ⟩ := h
    rfl
  obtain ⟨T, L, n, e, o, rfl, R, hQ⟩ := h
  refine ⟨_, (pss_one (ps_ret (pe_cmpR op_in_seq (pe_fld (pv 0) rfl) (pe_tup (pa_cons (pe_kon M.k_CLOSED) (pa_cons (pe_kon M.k_LISTENING) (pa_cons (pe_kon M.k_FAILED) pa_nil)))) (by with_unfolding_all rfl)))), ?_⟩
  obtain ⟨da, ha⟩ := R.ea.obj
  refine ⟨_, rfl, _, _, _, _, _, rfl, ha, M.tx.clE, M.tx.nE_state, lkE_state, (by show 3 ≤ sizeLine; decide), fun w hw => ⟨w, _, rfl, .inr (SqT.of upd_same), rfl, rfl, ?_⟩⟩
  rw [show (if false = true then !inV (.int e.state) [.int 0, .int 1, .int 8] else inV (.int e.state) [.int 0, .int 1, .int 8]) = barred e from in3]
  exact hQ _ (same_upd hw)
def sp_connect (K : PySem.W.Frag) : Sp := fun vs H Q _ => ∃ T L l, vs = [.ref L.lk] ∧ RepL K H T L l ∧ AnsQ K H T L (connect l) Q
theorem sc_connect : FnScope ["link", "endpoint"] ["link"] (defScope s_connect) := ⟨rfl, rfl, rfl, by decide +kernel, rfl, by decide +kernel, by decide +kernel⟩
theorem ok_connect (D : DefsOk K mg) (F_send_part : OkF P w K mg base "send_part" 5 ["link", "endpoint", "flag", "payload"] (sp_send_part K)) : OkF P w K mg base "connect" 6 ["link"] (sp_connect K) := by
  have M := D.m
  refine okF (st := s_connect) (N := ["link", "endpoint"]) D.d_connect D.g_connect sc_connect (fun vs H Q E h => ?_) (fun _ _ _ _ _ _ us hl => match us, hl with | [_], _ => rfl) (fun cdv A outer s H vs Q E hr h => ?_)
  · obtain ⟨T, L, l, rfl, R, A⟩ := h
    rfl
  obtain ⟨T, L, l, rfl, R, A⟩ := h
  refine ⟨_, (pss_cons (ps_set (i := 1) sc_connect.nd rfl (Or.inl rfl) (pe_ix ix_list (pe_fld (pv 0) rfl) pe_int (fun _ _ => rfl)))
      (pss_cons (ps_if (pt_cmp (pc_neI (pe_fld (pv 1) rfl) (pe_kon M.k_CLOSED))) (pss_one (ps_ret (pe_lst (pa_cons (pe_kon M.k_WRONG_STATE) pa_nil)))) pss_nil)
      (pss_cons (ps_fld (pv 1) (pe_kon M.k_SYN_SENT) rfl)
      (pss_cons (ps_expr (c_call F_send_part (hr.mono (by decide)) rfl (pa_cons (pv 0) (pa_cons (pv 1) (pa_cons (pe_kon M.k_SYN) (pa_cons (pe_lst pa_nil) pa_nil))))))
      (pss_one (ps_ret (pe_lst (pa_cons pe_int pa_nil)))))))), ?_⟩
  obtain ⟨dl, hl⟩ := R.2.lk
  obtain ⟨da, ha⟩ := R.2.ea.obj
  unfold connect at A
  refine ⟨_, rfl, _, _, _, _, _, rfl, hl, M.tx.clL, M.tx.nL_ends, lkL_ends, L.ends, _, 0, _, rfl, rfl, SqL.of R.ends, at_of (j := 0) rfl rfl, ?_⟩
  refine ⟨_, rfl, _, _, _, _, _, rfl, ha, M.tx.clE, M.tx.nE_state, lkE_state, _, _, rfl, rfl, _, rfl, ?_⟩
  refine ifN (c := l.a.state = 0) (fun c => ?_) (fun c => ?_)
  · rw [if_pos c] at A
    exact ⟨by show 1 ≤ sizeLine; decide, fun p hp => A.to R (NxL.refl H T L) hp⟩
  rw [if_neg (by rw [c]; simp)] at A
  obtain ⟨l1, h1, A⟩ := A.bind
  obtain ⟨r, h2, rfl⟩ := on_some h1
  refine ⟨_, rfl, _, _, _, _, rfl, ha, M.tx.clE, M.tx.nE_state, lnE, ?_⟩
  rw [ptE_state]
  generalize e1 : upd _ _ _ = H1
  obtain ⟨R1, F1⟩ := R.2.setE (e' := { l.a with state := 2 }) e1
  refine ⟨_, rfl, _, rfl, (by show 0 ≤ sizeLine; decide), fun q hq => ?_⟩
  generalize e2 : upd _ _ _ = H2
  obtain ⟨R2, F2, hq2, tq2, _⟩ := R1.alloc hq .frz e2
  refine ⟨_, L, l.n, { l.a with state := 2 }, l.b, 1, q, [], r, rfl, R2, hq2, tq2, by decide, h2, fun H3 T3 L3 R3 N3 => ?_⟩
  obtain ⟨R4, N4⟩ := RepL.back (i := false) R.1 R3 (Nx.trans ⟨rfl, rfl, rfl, rfl, F1.trans F2⟩ N3)
  exact ⟨by show 1 ≤ sizeLine; decide, fun p hp => A.to R4 N4 hp⟩
theorem any_max {us : List Int} {m c : Int} (h1 : m ∈ us) (h2 : ∀ y, y ∈ us → y ≤ m) : (us.any fun x => decide (c < x)) = decide (c < m) := by
  by_cases h : c < m
  · rw [decide_eq_true h, List.any_eq_true]
    exact ⟨m, h1, decide_eq_true h⟩
  · rw [decide_eq_false h, List.any_eq_false]
    intro x hx
    have := h2 x hx
    rw [decide_eq_true_eq]
    omega
def sp_write (K : PySem.W.Frag) : Sp := fun vs H Q _ => ∃ T L l i p, ∃ us : List Int, vs = [.ref L.lk, .ref (foc L i).a, .ref p] ∧ RepL K H T L l ∧ H p = some (.lst (us.map V.int)) ∧ AnsQ K H T L (write l i us) Q
theorem sc_write : FnScope ["link", "endpoint", "some", "accepted"] ["link", "endpoint", "some"] (defScope s_write) := ⟨rfl, rfl, rfl, by decide +kernel, rfl, by decide +kernel, by decide +kernel⟩
theorem ok_write (D : DefsOk K mg) (F_is_barred : OkF P w K mg base "is_barred" 1 ["endpoint"] (sp_is_barred K)) (F_output : OkF P w K mg base "output" 7 ["link", "endpoint"] (sp_output K)) (M_Endpoint_held_bytes : OkM P w K mg base (He.ga K "Endpoint") "held_bytes" 1 ["self"] (sp_Endpoint_held_bytes K)) : OkF P w K mg base "write" 8 ["link", "endpoint", "some"] (sp_write K) := by
  have M := D.m
  refine okF (st := s_write) (N := ["link", "endpoint", "some", "accepted"]) D.d_write D.g_write sc_write (fun vs H Q E h => ?_) (fun _ _ _ _ _ _ us hl => match us, hl with | [_, _, _], _ => rfl) (fun cdv A outer s H vs Q E hr h => ?_)
  · obtain ⟨T, L, l, i, p, us, rfl, R, hp, A⟩ := h
    rfl
  obtain ⟨T, L, l, i, p, us, rfl, R, hp, A⟩ := h
  refine ⟨_, (pss_cons (ps_if (PW.pt (pw_and (pt_cmpR (op_neN (X := _) hr.units) (pv 2) (pe_lst pa_nil) (nomark _)) (pw_and1 (pt_cmp (pc_gt (pe_callB (cr_max rfl) (by rfl) M.b_max bt_max (pa_cons (pv 2) pa_nil)) (pe_kon M.k_GREATEST_BYTE)))))) (pss_one (ps_ret (pe_lst (pa_cons (pe_kon M.k_BEYOND) pa_nil)))) pss_nil)
      (pss_cons (ps_if (PW.pt (pw_or (pt_val (c_call F_is_barred (hr.mono (by decide)) rfl (pa_cons (pv 1) pa_nil))) (pw_or1 (pt_val (pe_fld (pv 1) rfl))))) (pss_one (ps_ret (pe_lst (pa_cons (pe_kon M.k_WRONG_STATE) pa_nil)))) pss_nil)
      (pss_cons (ps_set (i := 3) sc_write.nd rfl (Or.inl rfl) (pe_slice sl_list (pv 2) po_none (po_some (pe_op op_sub (pe_fld (pe_fld (pv 0) rfl) rfl) (c_meth0 M_Endpoint_held_bytes (hr.mono (by decide)) (pv 1))))))
      (pss_cons (ps_fld (pv 1) (pe_op op_cat (pe_fld (pv 1) rfl) (pv 3)) rfl)
      (pss_cons (ps_fldaug (pv 1) (pe_callB call_len_seq (by rfl) M.b_len bt_len (pa_cons (pv 3) pa_nil)) in_add)
      (pss_cons (ps_expr (c_call F_output (hr.mono (by decide)) rfl (pa_cons (pv 0) (pa_cons (pv 1) pa_nil))))
      (pss_one (ps_ret (pe_lst (pa_cons (pe_callB call_len_seq (by rfl) M.b_len bt_len (pa_cons (pv 3) pa_nil)) pa_nil)))))))))), ?_⟩
  unfold write at A
  refine ⟨_, rfl, (by show 0 ≤ sizeLine; decide), fun q hq => ?_⟩
  generalize e1 : upd _ _ _ = H1
  have s1 : Same H H1 := by rw [← e1]; exact same_upd hq
  have hq1 : H1 q = some (.lst []) := by rw [← e1]; exact upd_same
  obtain ⟨R1, N1⟩ := R.sameF s1
  replace A := A.next N1
  have hp1 := s1 _ _ hp
  clear e1 s1 N1 R hp
  -- the deed itself
  have main : (us.any fun x => decide (255 < x)) = false → AnsQ K H1 T L (if (barred (l.at i) || (l.at i).closing) = true then ans l [-16]
      else if 0 ≤ l.n.buffer - (l.at i).held ∧ BdE (l.at i) ∧ us.length ≤ 10000 then
        (l.on i fun n e => output n { e with unsent := e.unsent ++ us.take (l.n.buffer - (l.at i).held).toNat, written := e.written + ((us.take (l.n.buffer - (l.at i).held).toNat).length : Int) }).bind fun l1 =>
          ans l1 [((us.take (l.n.buffer - (l.at i).held).toNat).length : Int)]
      else none) Q →
      tSeq (tIfS (tOr (tB (tCall (sp_is_barred K) [] E0 (tCons (tVar 1) tNil))) (tB (tFld K (tVar 1) "closing"))) (tRet (tLst (tCons (tC (V.int (-16))) tNil))) tNext) (tSeq (tAsg (tSl (rSlL K) (tVar 2) tNoPart (tPart (tOp (rI0 fun i j => V.int (i - j)) (tFld K (tFld K (tVar 0) "settings") "buffer") (tMeth (He.ga K "Endpoint") "held_bytes" (sp_Endpoint_held_bytes K) [] E0 (tVar 1) tNil)))) (gName 3)) (tSeq (sFld K (tVar 1) (tOp rCat (tFld K (tVar 1) "unsent") (tVar 3)) "unsent") (tSeq (sFldAug K (tVar 1) (tCB (fun xs H_1 Q => ∃ p ys, xs = [V.ref p] ∧ (SqL K H_1 p ys ∨ SqT K H_1 p ys) ∧ Q (V.int ys.length) H_1) (tCons (tVar 3) tNil)) rAdd "written") (tSeq (tDrop (tCall (sp_output K) [] E0 (tCons (tVar 0) (tCons (tVar 1) tNil)))) (tRet (tLst (tCons (tCB (fun xs H_1 Q => ∃ p ys, xs = [V.ref p] ∧ (SqL K H_1 p ys ∨ SqT K H_1 p ys) ∧ Q (V.int ys.length) H_1) (tCons (tVar 3) tNil)) tNil))))))) { nx := fun _ H' => Q .non H', rt := Q } [some (.ref L.lk), some (.ref (foc L i).a), some (.ref p), none] H1 := fun _ A => by
    have Rf := R1.fo i
    refine ⟨_, rfl, T, foc L i, l.n, l.at i, l.at (!i), rfl, Rf, fun H2 s2 => ⟨_, rfl, ?_⟩⟩
    obtain ⟨R2, N2⟩ := R1.sameF s2
    replace A := A.next N2
    have Rf := R2.fo i
    have hp2 := s2 _ _ hp1
    obtain ⟨dl, hl⟩ := Rf.lk
    rw [foc_lk] at hl
    obtain ⟨da, ha⟩ := Rf.ea.obj
    obtain ⟨ds, hs⟩ := Rf.st
    have bad : AnsQ K H2 T L (ans l [-16]) Q → tRet (tLst (tCons (tC (V.int (-16))) tNil)) { nx := fun _ H' => Q .non H', rt := Q } [some (.ref L.lk), some (.ref (foc L i).a), some (.ref p), none] H2 := fun A => ⟨by show 1 ≤ sizeLine; decide, fun p hp => A.to R2 (NxL.refl _ _ _) hp⟩
    refine ifB (fun c1 => ?_) (fun c1 => ?_)
    · rw [c1, Bool.true_or, if_pos rfl] at A
      exact iteT (bad A)
    refine ⟨_, rfl, _, _, _, _, _, rfl, ha, M.tx.clE, M.tx.nE_closing, lkE_closing, _, rfl, ?_⟩
    refine ifB (fun c2 => ?_) (fun c2 => ?_)
    · rw [c2, Bool.or_true, if_pos rfl] at A
      exact bad A
    rw [c1, c2, Bool.or_false, if_neg Bool.false_ne_true] at A
    obtain ⟨⟨b1, b2, b3⟩, A⟩ := A.if_
    obtain ⟨l1, h1, A⟩ := A.bind
    obtain ⟨r, h2, rfl⟩ := on_some h1
    refine ⟨_, rfl, _, rfl, _, _, _, _, _, rfl, hl, M.tx.clL, M.tx.nL_settings, lkL_settings, _, _, _, _, _, rfl, hs, M.tx.clS, M.tx.nS_buffer, lkS_buffer, _, rfl, (foc L i).a, da, _, rfl, ha, rfl, T, foc L i, l.n, l.at i, l.at (!i), rfl, Rf, b2.2.1, fun H3 s3 => ?_⟩
    refine ⟨_, _, rfl, rfl, _, rfl, p, _, rfl, SqL.of (s3 _ _ hp2), fun q hq => ?_⟩
    rw [cut_take (f := V.int) us b1]
    obtain ⟨R3, F3⟩ := Rf.sameF s3
    generalize e4 : upd _ _ _ = H4
    obtain ⟨R4, F4, hq4, tq4, s4⟩ := R3.alloc hq .frz e4
    have lws : (us.take (l.n.buffer - (l.at i).held).toNat).length ≤ 10000 := by rw [List.length_take]; omega
    generalize us.take (l.n.buffer - (l.at i).held).toNat = ws at *
    generalize rtg H3 T q .frz = T4 at *
    obtain ⟨da4, ha4⟩ := R4.ea.obj
    refine ⟨_, rfl, _, _, _, _, _, rfl, ha4, M.tx.clE, M.tx.nE_unsent, lkE_unsent, _, rfl, _, _, _, _, rfl, rfl, R4.ea.c.un, hq4, (by rw [List.length_map, List.length_map]; have h16 : sizeLine = 16777216 := sizeLine_eq; have := b2.2.2.1; omega), fun w hw => ?_⟩
    rw [← List.map_append]
    generalize e5 : upd _ _ _ = H5
    obtain ⟨R5, F5, hw5, tw5, s5⟩ := R4.alloc hw .frz e5
    have tq5 : rtg H4 T4 w .frz q = .frz := (rtg_old hw hq4).trans tq4
    generalize rtg H4 T4 w .frz = T5 at *
    obtain ⟨da5, ha5⟩ := R5.ea.obj
    refine ⟨_, rfl, _, _, _, _, rfl, ha5, M.tx.clE, M.tx.nE_unsent, lnE, ?_⟩
    rw [ptE_unsent]
    generalize e6 : upd _ _ _ = H6
    obtain ⟨R6, F6⟩ := R5.putUn (us := (l.at i).unsent ++ ws) hw5 tw5 e6
    have hq6 := (F6 q _ (s5 _ _ hq4)).2.2 (.inl tq5)
    have ea6 : ({ foc L i with y := { (foc L i).y with un := w } } : Lay).a = (foc L i).a := rfl
    generalize el : ({ foc L i with y := { (foc L i).y with un := w } } : Lay) = L6 at *
    obtain ⟨da6, ha6⟩ := R6.ea.obj
    have lk6 : L6.lk = L.lk := by rw [← el]; exact foc_lk L i
    have N6 : Nx H2 T (foc L i) H6 T5 L6 := by
      rw [← el]
      exact ⟨rfl, rfl, rfl, rfl, ((F3.trans F4).trans F5).trans F6⟩
    clear el
    rw [← ea6]
    refine ⟨_, rfl, _, _, _, _, _, rfl, ha6, M.tx.clE, M.tx.nE_written, lkE_written, _, rfl, q, _, rfl, .inl (SqL.of hq6), _, _, rfl, rfl, da6, _, ha6, lnE, ?_⟩
    rw [ptE_written, List.length_map]
    generalize e7 : upd _ _ _ = H7
    obtain ⟨R7, F7⟩ := R6.setE (e' := { l.at i with unsent := (l.at i).unsent ++ ws, written := (l.at i).written + (ws.length : Int) }) e7
    have hq7 := (F7 q _ hq6).2.2 (.inl tq5)
    refine ⟨_, rfl, _, rfl, T5, L6, l.n, _, l.at (!i), r, by rw [lk6]; rfl, R7, h2, fun H8 T8 L8 R8 N8 => ?_⟩
    have hq8 := (N8.2.2.2.2 q _ hq7).2.2 (.inl tq5)
    obtain ⟨R9, N9⟩ := RepL.back R1.1 R8 (Nx.trans (Nx.trans N6 ⟨rfl, rfl, rfl, rfl, F7⟩) N8)
    refine ⟨_, rfl, q, _, rfl, .inl (SqL.of hq8), (by show 1 ≤ sizeLine; decide), fun z hz => ?_⟩
    rw [List.length_map]
    exact A.to R9 N9 hz
  refine ⟨p, q, _, rfl, rfl, SqL.of hp1, SqL.of hq1, _, rfl, ?_⟩
  refine ifNE (fun ne => ?_) (fun em => ?_)
  · have un : us ≠ [] := fun z => ne (by rw [z]; rfl)
    refine ⟨_, rfl, p, us, rfl, SqL.of hp1, List.length_pos_iff.mpr un, fun m h1 h2 => ?_⟩
    have am := any_max (c := 255) h1 h2
    refine ⟨_, _, rfl, rfl, _, rfl, ?_⟩
    refine ifD (c := 255 < m) (fun c => ?_) (fun c => ?_)
    · rw [decide_eq_true c] at am
      rw [if_pos am] at A
      exact ⟨by show 1 ≤ sizeLine; decide, fun p hp => A.to R1 (NxL.refl _ _ _) hp⟩
    · rw [decide_eq_false c] at am
      rw [if_neg (by rw [am]; exact Bool.false_ne_true)] at A
      exact main am A
  · have un : us = [] := List.map_eq_nil_iff.mp em
    have am : (us.any fun x => decide (255 < x)) = false := by rw [un]; rfl
    rw [if_neg (by rw [am]; exact Bool.false_ne_true)] at A
    exact iteF (main am A)
def sp_read (K : PySem.W.Frag) : Sp := fun vs H Q _ => ∃ T L l i m, vs = [.ref L.lk, .ref (foc L i).a, .int m] ∧ RepL K H T L l ∧ AnsQ K H T L (read l i m) Q
theorem sc_read : FnScope ["link", "endpoint", "many", "was_shut", "found"] ["link", "endpoint", "many"] (defScope s_read) := ⟨rfl, rfl, rfl, by decide +kernel, rfl, by decide +kernel, by decide +kernel⟩
theorem ok_read (D : DefsOk K mg) (F_send_acknowledgement : OkF P w K mg base "send_acknowledgement" 4 ["link", "endpoint"] (sp_send_acknowledgement K)) (M_Link_window_of : OkM P w K mg base (He.ga K "Link") "window_of" 1 ["self", "endpoint"] (sp_Link_window_of K)) : OkF P w K mg base "read" 5 ["link", "endpoint", "many"] (sp_read K) := by
  have M := D.m
  refine okF (st := s_read) (N := ["link", "endpoint", "many", "was_shut", "found"]) D.d_read D.g_read sc_read (fun vs H Q E h => ?_) (fun _ _ _ _ _ _ us hl => match us, hl with | [_, _, _], _ => rfl) (fun cdv A outer s H vs Q E hr h => ?_)
  · obtain ⟨T, L, l, i, m, rfl, R, A⟩ := h
    rfl
  obtain ⟨T, L, l, i, m, rfl, R, A⟩ := h
  refine ⟨_, (pss_cons (ps_set (i := 3) sc_read.nd rfl (Or.inl rfl) (pe_cmp (pc_eqI (c_meth M_Link_window_of (hr.mono (by decide)) (pv 0) (pa_cons (pv 1) pa_nil)) pe_int)))
      (pss_cons (ps_set (i := 4) sc_read.nd rfl (Or.inl rfl) (pe_slice sl_list (pe_fld (pv 1) rfl) po_none (po_some (pv 2))))
      (pss_cons (ps_fld (pv 1) (pe_slice sl_list (pe_fld (pv 1) rfl) (po_some (pv 2)) po_none) rfl)
      (pss_cons (ps_fldaug (pv 1) (pe_callB call_len_seq (by rfl) M.b_len bt_len (pa_cons (pv 4) pa_nil)) in_add)
      (pss_cons (ps_if (PW.pt (pw_and (pt_val (pv 3)) (pw_and (pt_cmp (pc_gt (c_meth M_Link_window_of (hr.mono (by decide)) (pv 0) (pa_cons (pv 1) pa_nil)) pe_int)) (pw_and1 (pt_cmp (pc_eqI (pe_fld (pv 1) rfl) (pe_kon M.k_ESTABLISHED))))))) (pss_one (ps_expr (c_call F_send_acknowledgement (hr.mono (by decide)) rfl (pa_cons (pv 0) (pa_cons (pv 1) pa_nil))))) pss_nil)
      (pss_one (ps_ret (pe_op op_cat (pe_lst (pa_cons (pe_callB call_len_seq (by rfl) M.b_len bt_len (pa_cons (pv 4) pa_nil)) pa_nil)) (pv 4))))))))), ?_⟩
  unfold read at A
  obtain ⟨⟨b1, b2⟩, A⟩ := A.if_
  obtain ⟨l1, h1, A⟩ := A.bind
  obtain ⟨r, h2, rfl⟩ := on_some h1
  have Rf := R.fo i
  obtain ⟨dl, hl⟩ := R.2.lk
  obtain ⟨da, ha⟩ := Rf.ea.obj
  refine ⟨_, rfl, L.lk, dl, _, rfl, hl, rfl, _, rfl, T, foc L i, l.n, l.at i, l.at (!i), by rw [foc_lk]; rfl, Rf, _, _, rfl, rfl, ?_⟩
  refine ⟨_, rfl, _, _, _, _, _, rfl, ha, M.tx.clE, M.tx.nE_readable, lkE_readable, _, rfl, m, rfl, (foc L i).y.rd, _, rfl, SqL.of Rf.ea.c.rd, fun q hq => ?_⟩
  rw [cut_take (f := V.int) (l.at i).readable b1]
  generalize e1 : upd _ _ _ = H1
  obtain ⟨R1, F1, hq1, tq1, s1⟩ := Rf.alloc hq .frz e1
  generalize rtg H T q .frz = T1 at *
  obtain ⟨da1, ha1⟩ := R1.ea.obj
  refine ⟨_, rfl, _, _, _, _, _, rfl, ha1, M.tx.clE, M.tx.nE_readable, lkE_readable, _, rfl, m, rfl, (foc L i).y.rd, _, rfl, SqL.of R1.ea.c.rd, fun w hw => ?_⟩
  rw [cut_drop (f := V.int) (l.at i).readable b1]
  generalize e2 : upd _ _ _ = H2
  obtain ⟨R2, F2, hw2, tw2, s2⟩ := R1.alloc hw (.rd (foc L i).i) e2
  have tq2 : rtg H1 T1 w (.rd (foc L i).i) q = .frz := (rtg_old hw hq1).trans tq1
  generalize rtg H1 T1 w (.rd (foc L i).i) = T2 at *
  obtain ⟨da2, ha2⟩ := R2.ea.obj
  refine ⟨_, rfl, _, _, _, _, rfl, ha2, M.tx.clE, M.tx.nE_readable, lnE, ?_⟩
  rw [ptE_readable]
  generalize e3 : upd _ _ _ = H3
  obtain ⟨R3, F3⟩ := R2.putRd (us := (l.at i).readable.drop m.toNat) hw2 tw2 e3
  have hq3 := (F3 q _ (s2 _ _ hq1)).2.2 (.inl tq2)
  have ea3 : ({ foc L i with y := { (foc L i).y with rd := w } } : Lay).a = (foc L i).a := rfl
  generalize el : ({ foc L i with y := { (foc L i).y with rd := w } } : Lay) = L3 at *
  have lk3 : L3.lk = L.lk := by rw [← el]; exact foc_lk L i
  have N3 : Nx H T (foc L i) H3 T2 L3 := by
    rw [← el]
    exact ⟨rfl, rfl, rfl, rfl, (F1.trans F2).trans F3⟩
  clear el
  rw [← ea3]
  obtain ⟨da3, ha3⟩ := R3.ea.obj
  refine ⟨_, rfl, _, _, _, _, _, rfl, ha3, M.tx.clE, M.tx.nE_consumed, lkE_consumed, _, rfl, q, _, rfl, .inl (SqL.of hq3), _, _, rfl, rfl, da3, _, ha3, lnE, ?_⟩
  rw [ptE_consumed, List.length_map]
  generalize e4 : upd _ _ _ = H4
  obtain ⟨R4, F4⟩ := R3.setE (e' := readE (l.at i) m) e4
  have hq4 := (F4 q _ hq3).2.2 (.inl tq2)
  have N4 := N3.trans ⟨rfl, rfl, rfl, rfl, F4⟩
  obtain ⟨dl4, hl4⟩ := R4.lk
  obtain ⟨da4, ha4⟩ := R4.ea.obj
  -- the answer
  have ret : ∀ H5 T5 L5, Rep K H5 T5 L5 r.1 r.2 (l.at (!i)) → Nx H4 T2 L3 H5 T5 L5 → tRet (tOp rCat (tLst (tCons (tCB (fun xs H_1 Q => ∃ p ys, xs = [V.ref p] ∧ (SqL K H_1 p ys ∨ SqT K H_1 p ys) ∧ Q (V.int ys.length) H_1) (tCons (tVar 4) tNil)) tNil)) (tVar 4)) { nx := fun _ H' => Q .non H', rt := Q } [some (.ref L.lk), some (.ref L3.a), some (.int m), some (.bl (decide (win l.n (l.at i) = 0))), some (.ref q)] H5 := fun H5 T5 L5 R5 N5 => by
    have hq5 := (N5.2.2.2.2 q _ hq4).2.2 (.inl tq2)
    obtain ⟨R6, N6⟩ := RepL.back R.1 R5 (N4.trans N5)
    refine ⟨_, rfl, q, _, rfl, .inl (SqL.of hq5), (by show 1 ≤ sizeLine; decide), fun z hz => ?_⟩
    rw [List.length_map]
    generalize e7 : upd _ _ _ = H7
    obtain ⟨R7, N7⟩ := R6.sameF (by rw [← e7]; exact same_upd hz : Same H5 H7)
    have hz7 : H7 z = some (.lst [.int (((l.at i).readable.take m.toNat).length : Int)]) := by rw [← e7]; exact upd_same
    have hq7 : H7 q = some (.lst (((l.at i).readable.take m.toNat).map V.int)) := by rw [← e7]; exact same_upd hz _ _ hq5
    refine ⟨_, rfl, _, _, _, _, rfl, rfl, hz7, hq7, ?_, fun u hu => A.to R7 (N6.trans N7) hu⟩
    rw [List.length_map, List.length_take]
    have := b2.2.2.2
    have h16 : sizeLine = 16777216 := sizeLine_eq
    show 1 + _ ≤ _
    omega
  refine ⟨_, rfl, _, rfl, ?_⟩
  have go : ¬ (win l.n (l.at i) = 0 ∧ win l.n (readE (l.at i) m) > 0 ∧ (l.at i).state = 4) → Rep K H4 T2 L3 r.1 r.2 (l.at (!i)) := fun c => by
    rw [if_neg c] at h2
    cases h2
    exact R4
  refine ifD (c := win l.n (l.at i) = 0) (fun c1 => ?_) (fun c1 => ?_)
  · refine ⟨_, rfl, L3.lk, dl4, _, by rw [lk3], hl4, rfl, _, rfl, T2, L3, l.n, readE (l.at i) m, l.at (!i), by rw [lk3]; rfl, R4, _, _, rfl, rfl, _, rfl, ?_⟩
    refine ifD (c := 0 < win l.n (readE (l.at i) m)) (fun c2 => ?_) (fun c2 => ?_)
    · refine ⟨_, rfl, _, _, _, _, _, rfl, ha4, M.tx.clE, M.tx.nE_state, lkE_state, _, _, rfl, rfl, _, rfl, ?_⟩
      refine ifD (c := (l.at i).state = 4) (fun c3 => ?_) (fun c3 => ?_)
      · rw [if_pos ⟨c1, c2, c3⟩] at h2
        obtain ⟨n1, h3, h4⟩ := bind_some h2
        cases h4
        exact ⟨_, rfl, _, rfl, T2, L3, l.n, readE (l.at i) m, l.at (!i), n1, by rw [lk3]; rfl, R4, h3, fun H5 T5 L5 R5 N5 _ => ret H5 T5 L5 R5 N5⟩
      · exact ret H4 T2 L3 (go fun z => c3 z.2.2) (Nx.refl _ _ _)
    · exact iteF (ret H4 T2 L3 (go fun z => c2 z.2.1) (Nx.refl _ _ _))
  · exact iteF (ret H4 T2 L3 (go fun z => c1 z.1) (Nx.refl _ _ _))
def sp_close (K : PySem.W.Frag) : Sp := fun vs H Q _ => ∃ T L l i, vs = [.ref L.lk, .ref (foc L i).a] ∧ RepL K H T L l ∧ AnsQ K H T L (close l i) Q
theorem sc_close : FnScope ["link", "endpoint"] ["link", "endpoint"] (defScope s_close) := ⟨rfl, rfl, rfl, by decide +kernel, rfl, by decide +kernel, by decide +kernel⟩
theorem ok_close (D : DefsOk K mg) (F_is_barred : OkF P w K mg base "is_barred" 1 ["endpoint"] (sp_is_barred K)) (F_output : OkF P w K mg base "output" 7 ["link", "endpoint"] (sp_output K)) : OkF P w K mg base "close" 8 ["link", "endpoint"] (sp_close K) := by
  have M := D.m
  refine okF (st := s_close) (N := ["link", "endpoint"]) D.d_close D.g_close sc_close (fun vs H Q E h => ?_) (fun _ _ _ _ _ _ us hl => match us, hl with | [_, _], _ => rfl) (fun cdv A outer s H vs Q E hr h => ?_)
  · obtain ⟨T, L, l, i, rfl, R, A⟩ := h
    rfl
  obtain ⟨T, L, l, i, rfl, R, A⟩ := h
  refine ⟨_, (pss_cons (ps_if (PW.pt (pw_or (pt_val (c_call F_is_barred (hr.mono (by decide)) rfl (pa_cons (pv 1) pa_nil))) (pw_or1 (pt_val (pe_fld (pv 1) rfl))))) (pss_one (ps_ret (pe_lst (pa_cons (pe_kon M.k_WRONG_STATE) pa_nil)))) pss_nil)
      (pss_cons (ps_fld (pv 1) pe_bl rfl)
      (pss_cons (ps_expr (c_call F_output (hr.mono (by decide)) rfl (pa_cons (pv 0) (pa_cons (pv 1) pa_nil))))
      (pss_one (ps_ret (pe_lst (pa_cons pe_int pa_nil))))))), ?_⟩
  unfold close at A
  refine ⟨_, rfl, T, foc L i, l.n, l.at i, l.at (!i), rfl, R.fo i, fun H2 s2 => ⟨_, rfl, ?_⟩⟩
  obtain ⟨R2, N2⟩ := R.sameF s2
  replace A := A.next N2
  have Rf := R2.fo i
  obtain ⟨da, ha⟩ := Rf.ea.obj
  have bad : AnsQ K H2 T L (ans l [-16]) Q → tRet (tLst (tCons (tC (V.int (-16))) tNil)) { nx := fun _ H' => Q .non H', rt := Q } [some (.ref L.lk), some (.ref (foc L i).a)] H2 := fun A => ⟨by show 1 ≤ sizeLine; decide, fun p hp => A.to R2 (NxL.refl _ _ _) hp⟩
  refine ifB (fun c1 => ?_) (fun c1 => ?_)
  · rw [c1, Bool.true_or, if_pos rfl] at A
    exact iteT (bad A)
  refine ⟨_, rfl, _, _, _, _, _, rfl, ha, M.tx.clE, M.tx.nE_closing, lkE_closing, _, rfl, ?_⟩
  refine ifB (fun c2 => ?_) (fun c2 => ?_)
  · rw [c2, Bool.or_true, if_pos rfl] at A
    exact bad A
  rw [c1, c2, Bool.or_false, if_neg Bool.false_ne_true] at A
  obtain ⟨l1, h1, A⟩ := A.bind
  obtain ⟨r, h2, rfl⟩ := on_some h1
  refine ⟨_, rfl, _, _, _, _, rfl, ha, M.tx.clE, M.tx.nE_closing, lnE, ?_⟩
  rw [ptE_closing]
  generalize e3 : upd _ _ _ = H3
  obtain ⟨R3, F3⟩ := Rf.setE (e' := { l.at i with closing := true }) e3
  refine ⟨_, rfl, _, rfl, T, foc L i, l.n, _, l.at (!i), r, by rw [foc_lk]; rfl, R3, h2, fun H4 T4 L4 R4 N4 => ?_⟩
  obtain ⟨R5, N5⟩ := RepL.back R2.1 R4 (Nx.trans ⟨rfl, rfl, rfl, rfl, F3⟩ N4)
  exact ⟨by show 1 ≤ sizeLine; decide, fun p hp => A.to R5 N5 hp⟩
def sp_abort (K : PySem.W.Frag) : Sp := fun vs H Q _ => ∃ T L l i, vs = [.ref L.lk, .ref (foc L i).a] ∧ RepL K H T L l ∧ AnsQ K H T L (abort l i) Q
theorem sc_abort : FnScope ["link", "endpoint"] ["link", "endpoint"] (defScope s_abort) := ⟨rfl, rfl, rfl, by decide +kernel, rfl, by decide +kernel, by decide +kernel⟩
theorem ok_abort (D : DefsOk K mg) (F_is_barred : OkF P w K mg base "is_barred" 1 ["endpoint"] (sp_is_barred K)) (F_transmit : OkF P w K mg base "transmit" 3 ["link", "endpoint", "flags", "position", "payload"] (sp_transmit K)) (M_Endpoint_fail : OkM P w K mg base (He.ga K "Endpoint") "fail" 1 ["self"] (sp_Endpoint_fail K)) : OkF P w K mg base "abort" 4 ["link", "endpoint"] (sp_abort K) := by
  have M := D.m
  refine okF (st := s_abort) (N := ["link", "endpoint"]) D.d_abort D.g_abort sc_abort (fun vs H Q E h => ?_) (fun _ _ _ _ _ _ us hl => match us, hl with | [_, _], _ => rfl) (fun cdv A outer s H vs Q E hr h => ?_)
  · obtain ⟨T, L, l, i, rfl, R, A⟩ := h
    rfl
  obtain ⟨T, L, l, i, rfl, R, A⟩ := h
  refine ⟨_, (pss_cons (ps_if (pt_val (c_call F_is_barred (hr.mono (by decide)) rfl (pa_cons (pv 1) pa_nil))) (pss_one (ps_ret (pe_lst (pa_cons (pe_kon M.k_WRONG_STATE) pa_nil)))) pss_nil)
      (pss_cons (ps_expr (c_call F_transmit (hr.mono (by decide)) rfl (pa_cons (pv 0) (pa_cons (pv 1) (pa_cons (pe_kon M.k_RESET) (pa_cons (pe_fld (pv 1) rfl) (pa_cons (pe_lst pa_nil) pa_nil)))))))
      (pss_cons (ps_expr (c_meth0 M_Endpoint_fail (hr.mono (by decide)) (pv 1)))
      (pss_one (ps_ret (pe_lst (pa_cons pe_int pa_nil))))))), ?_⟩
  unfold abort at A
  refine ⟨_, rfl, T, foc L i, l.n, l.at i, l.at (!i), rfl, R.fo i, fun H2 s2 => ⟨_, rfl, ?_⟩⟩
  obtain ⟨R2, N2⟩ := R.sameF s2
  replace A := A.next N2
  have Rf := R2.fo i
  obtain ⟨da, ha⟩ := Rf.ea.obj
  refine ifB (fun c1 => ?_) (fun c1 => ?_)
  · rw [if_pos c1] at A
    exact ⟨by show 1 ≤ sizeLine; decide, fun p hp => A.to R2 (NxL.refl _ _ _) hp⟩
  rw [if_neg (by rw [c1]; exact Bool.false_ne_true)] at A
  obtain ⟨l1, h1, A⟩ := A.bind
  obtain ⟨r, h2, rfl⟩ := on_some h1
  obtain ⟨n1, h3, h4⟩ := bind_some h2
  cases h4
  refine ⟨_, rfl, _, rfl, _, rfl, _, _, _, _, _, rfl, ha, M.tx.clE, M.tx.nE_next_position, lkE_next_position, (by show 0 ≤ sizeLine; decide), fun q hq => ?_⟩
  generalize e3 : upd _ _ _ = H3
  obtain ⟨R3, F3, hq3, tq3, _⟩ := Rf.alloc hq .frz e3
  refine ⟨_, foc L i, l.n, l.at i, l.at (!i), 4, _, q, [], n1, by rw [foc_lk]; rfl, R3, hq3, tq3, by decide, h3, fun H4 T4 L4 R4 N4 y4 => ?_⟩
  have N4' := Nx.trans ⟨rfl, rfl, rfl, rfl, F3⟩ N4
  obtain ⟨da4, ha4⟩ := R4.ea.obj
  refine ⟨_, rfl, L4.a, da4, _, by rw [N4.2.1], ha4, rfl, T4, L4, n1, l.at i, l.at (!i), by rw [N4.2.1]; rfl, R4, fun H5 T5 L5 R5 N5 => ?_⟩
  obtain ⟨R6, N6⟩ := RepL.back R2.1 R5 (Nx.trans N4' N5)
  exact ⟨by show 1 ≤ sizeLine; decide, fun p hp => A.to R6 N6 hp⟩
end
end Ws
set_option Elab.async false
set_option linter.all false
set_option maxRecDepth 100000
set_option maxHeartbeats 4000000
namespace Ws
open PySem PySem.Spec PyProof.Rows L2 Wt

section
variable {P : Program} {w : World} {K : PySem.W.Frag} {mg : Str → Option Value} {base : Heap}
theorem Same.back {H H' : Hp} {p : Addr} (s : Same H H') (h : H' p = none) : H p = none := by
  cases z : H p with
  | none => rfl
  | some u => rw [s _ _ z] at h; cases h
theorem fm_len {α : Type} {f : α → List Int} {k : Nat} (h : ∀ x, (f x).length = k) (l : List α) : (l.flatMap f).length = k * l.length := by
  induction l with
  | nil => simp
  | cons x r ih => rw [List.flatMap_cons, List.length_append, h, ih, List.length_cons, Nat.mul_succ, Nat.add_comm]
theorem fm_take {α : Type} {f : α → List Int} {l : List α} {i : Nat} {x : α} (h : l[i]? = some x) : (l.take (i + 1)).flatMap f = (l.take i).flatMap f ++ f x := by
  rw [take_more h, List.flatMap_append, List.flatMap_cons, List.flatMap_nil, List.append_nil]
theorem seg_at {K : PySem.W.Frag} {H : Hp} {T : Tm} {L : Lay} {n : MNet} {e o : MEnd} {k : Nat} {g : MSeg} (R : Rep K H T L n e o) (h : n.segs[k]? = some g) : ∃ a, L.ss[k]? = some (a, g) := by
  rw [R.ss, List.getElem?_map] at h
  obtain ⟨q, hq, rfl⟩ := Option.map_eq_some_iff.mp h
  exact ⟨q.1, hq⟩
theorem ss_len {K : PySem.W.Frag} {H : Hp} {T : Tm} {L : Lay} {n : MNet} {e o : MEnd} (R : Rep K H T L n e o) : L.ss.length = n.segs.length := by rw [R.ss, List.length_map]
theorem seq_nat {k n : Nat} (h : k < n) : seqIndex? (k : Int) n = some k := by
  unfold seqIndex?
  have h1 : ¬ ((k : Int) < 0) := by omega
  simp only [if_neg h1]
  rw [if_pos]
  · rfl
  · rw [Bool.and_eq_true]
    exact ⟨decide_eq_true (by omega), decide_eq_true (by omega)⟩
theorem erase_map {α β : Type} (f : α → β) : ∀ (l : List α) (k : Nat), (l.map f).eraseIdx k = (l.eraseIdx k).map f
  | [], _ => rfl
  | _ :: _, 0 => rfl
  | x :: r, k + 1 => by
    show f x :: (r.map f).eraseIdx k = f x :: (r.eraseIdx k).map f
    rw [erase_map f r k]
theorem mem_erase {α : Type} : ∀ {l : List α} {k : Nat} {x : α}, x ∈ l.eraseIdx k → x ∈ l
  | [], _, _, h => h
  | _ :: _, 0, _, h => List.mem_cons_of_mem _ h
  | y :: r, k + 1, x, h => by
    rcases List.mem_cons.mp (show x ∈ y :: r.eraseIdx k from h) with q | q
    · rw [q]; exact List.mem_cons_self
    · exact List.mem_cons_of_mem _ (mem_erase q)
def sp_list_segments (K : PySem.W.Frag) : Sp := fun vs H Q _ => ∃ T L l, vs = [.ref L.lk] ∧ RepL K H T L l ∧ AnsQ K H T L (listSegments l) Q
theorem sc_list_segments : FnScope ["link", "found", "segment"] ["link"] (defScope s_list_segments) := ⟨rfl, rfl, rfl, by decide +kernel, rfl, by decide +kernel, by decide +kernel⟩
theorem ok_list_segments (D : DefsOk K mg)  : OkF P w K mg base "list_segments" 1 ["link"] (sp_list_segments K) := by
  have M := D.m
  refine okF (st := s_list_segments) (N := ["link", "found", "segment"]) D.d_list_segments D.g_list_segments sc_list_segments (fun vs H Q E h => ?_) (fun _ _ _ _ _ _ us hl => match us, hl with | [_], _ => rfl) (fun cdv A outer s H vs Q E hr h => ?_)
  · obtain ⟨T, L, l, rfl, R, A⟩ := h
    rfl
  obtain ⟨T, L, l, rfl, R, A⟩ := h
  refine ⟨_, (pss_cons (ps_set (i := 1) sc_list_segments.nd rfl (Or.inl rfl) (pe_lst (pa_cons (pe_callB call_len_seq (by rfl) M.b_len bt_len (pa_cons (pe_fld (pv 0) rfl) pa_nil)) pa_nil)))
      (pss_cons (ps_for PassesOwn.never rfl (pi_list (pe_fld (pv 0) rfl)) (pg_name (i := 2) sc_list_segments.nd rfl (Or.inl rfl)) (pss_one (ps_set (i := 1) sc_list_segments.nd rfl (Or.inl rfl) (pe_op op_cat (pv 1) (pe_lst (pa_cons (pe_fld (pv 2) rfl) (pa_cons (pe_fld (pv 2) rfl) (pa_cons (pe_fld (pv 2) rfl) (pa_cons (pe_callB call_len_seq (by rfl) M.b_len bt_len (pa_cons (pe_fld (pv 2) rfl) pa_nil)) pa_nil)))))))))
      (pss_one (ps_ret (pv 1))))), ?_⟩
  unfold listSegments at A
  obtain ⟨b1, A⟩ := A.if_
  have h16 : sizeLine = 16777216 := sizeLine_eq
  have ls := ss_len R.2
  obtain ⟨dl, hl⟩ := R.2.lk
  refine ⟨_, rfl, _, _, _, _, _, rfl, hl, M.tx.clL, M.tx.nL_segments, lkL_segments, L.segs, _, rfl, .inl (SqL.of R.2.sg), (by show 1 ≤ sizeLine; omega), fun f hf => ?_⟩
  rw [List.length_map, ls]
  generalize e1 : upd _ _ _ = H1
  have s1 : Same H H1 := by rw [← e1]; exact same_upd hf
  have hf1 : H1 f = some (.lst [.int (l.n.segs.length : Int)]) := by rw [← e1]; exact upd_same
  refine ⟨_, rfl, _, _, _, _, _, rfl, s1 _ _ hl, M.tx.clL, M.tx.nL_segments, lkL_segments, L.segs, rfl, ⟨_, SqL.of (s1 _ _ R.2.sg)⟩, ?_⟩
  refine for_list (K := K) (xs := L.ss.map fun q => V.ref q.1) (fun i σ H' => ∃ f v, σ = [some (.ref L.lk), some (.ref f), v] ∧ H f = none ∧ Same H H' ∧ H' f = some (.lst (((l.n.segs.length : Int) :: (l.n.segs.take i).flatMap segRow).map V.int)))
    ⟨f, none, rfl, hf, s1, hf1⟩ (fun i σ H' _ ⟨_, _, _, _, s, _⟩ => SqL.of (s _ _ R.2.sg)) ?_ ?_
  · rintro i x σ H' hx ⟨f, v, rfl, hn, s, hf⟩
    rw [List.getElem?_map] at hx
    obtain ⟨q, hq, rfl⟩ := Option.map_eq_some_iff.mp hx
    have G := (R.2.sa q (List.mem_of_getElem? hq)).fr (Fr.of_same (T' := T) s fun _ _ _ => rfl)
    obtain ⟨dg, pl, bl, bs, hg, hgp, _⟩ := id G
    have hgi : l.n.segs[i]? = some q.2 := by rw [R.2.ss, List.getElem?_map, hq]; rfl
    have hil : i < l.n.segs.length := (List.getElem?_eq_some_iff.mp hgi).1
    refine ⟨_, rfl, _, rfl, _, _, _, _, _, rfl, hg, M.tx.clG, M.tx.nG_sender, lkG_sender, _, rfl, _, _, _, _, _, rfl, hg, M.tx.clG, M.tx.nG_flags, lkG_flags, _, rfl, _, _, _, _, _, rfl, hg, M.tx.clG, M.tx.nG_sequence, lkG_sequence, _, rfl, _, _, _, _, _, rfl, hg, M.tx.clG, M.tx.nG_payload, lkG_payload, pl, _, rfl, .inl (SqL.of hgp), (by show 4 ≤ sizeLine; omega), fun w hw => ?_⟩
    rw [List.length_map]
    generalize e2 : upd _ _ _ = H2
    have s2 : Same H' H2 := by rw [← e2]; exact same_upd hw
    have hw2 : H2 w = some (.lst ((segRow q.2).map V.int)) := by rw [← e2]; exact upd_same
    refine ⟨_, _, _, _, rfl, rfl, s2 _ _ hf, hw2, ?_, fun z hz => ?_⟩
    · rw [List.length_map, List.length_cons, fm_len (k := 4) (fun _ => rfl), List.length_take, List.length_map]
      show _ + 4 ≤ _
      omega
    · rw [← List.map_append]
      refine ⟨z, some (.ref q.1), rfl, Same.back (s.trans s2) hz, (s.trans s2).trans (same_upd hz), ?_⟩
      rw [upd_same, fm_take hgi]
      rfl
  · rintro σ H2 ⟨f, v, rfl, hn, s, hf⟩
    rw [List.length_map, ls, List.take_length] at hf
    obtain ⟨R2, N2⟩ := R.sameF s
    exact ⟨_, rfl, A.to2 R2 N2 hf hn⟩
def sp_show_segment (K : PySem.W.Frag) : Sp := fun vs H Q _ => ∃ T sa g, vs = [.ref sa] ∧ SegAt K H T sa g ∧ g.payload.length ≤ 10000 ∧ g.blocks.length ≤ 10000 ∧ ∀ H' p, Same H H' → H' p = some (.lst ((showSegment g).map V.int)) → H p = none → Q (.ref p) H'
theorem sc_show_segment : FnScope ["segment", "found", "start", "end"] ["segment"] (defScope s_show_segment) := ⟨rfl, rfl, rfl, by decide +kernel, rfl, by decide +kernel, by decide +kernel⟩
theorem ok_show_segment (D : DefsOk K mg)  : OkF P w K mg base "show_segment" 1 ["segment"] (sp_show_segment K) := by
  have M := D.m
  refine okF (st := s_show_segment) (N := ["segment", "found", "start", "end"]) D.d_show_segment D.g_show_segment sc_show_segment (fun vs H Q E h => ?_) (fun _ _ _ _ _ _ us hl => match us, hl with | [_], _ => rfl) (fun cdv A outer s H vs Q E hr h => ?_)
  · obtain ⟨T, sa, g, rfl, G, b1, b2, hQ⟩ := h
    rfl
  obtain ⟨T, sa, g, rfl, G, b1, b2, hQ⟩ := h
  refine ⟨_, (pss_cons (ps_set (i := 1) sc_show_segment.nd rfl (Or.inl rfl) (pe_lst (pa_cons (pe_fld (pv 0) rfl) (pa_cons (pe_fld (pv 0) rfl) (pa_cons (pe_fld (pv 0) rfl) (pa_cons (pe_fld (pv 0) rfl) (pa_cons (pe_fld (pv 0) rfl) (pa_cons (pe_callB call_len_seq (by rfl) M.b_len bt_len (pa_cons (pe_fld (pv 0) rfl) pa_nil)) pa_nil))))))))
      (pss_cons (ps_for PassesOwn.never rfl (pi_list (pe_fld (pv 0) rfl)) (pg_tup rfl (pgs_cons (pg_name (i := 2) sc_show_segment.nd rfl (Or.inl rfl)) (pgs_cons (pg_name (i := 3) sc_show_segment.nd rfl (Or.inl rfl)) pgs_nil))) (pss_one (ps_set (i := 1) sc_show_segment.nd rfl (Or.inl rfl) (pe_op op_cat (pv 1) (pe_lst (pa_cons (pv 2) (pa_cons (pv 3) pa_nil)))))))
      (pss_one (ps_ret (pe_op op_cat (pv 1) (pe_fld (pv 0) rfl)))))), ?_⟩
  have h16 : sizeLine = 16777216 := sizeLine_eq
  obtain ⟨dg, pl, bl, bs, hg, hgp, hgb, eb, hb, _, _, _, _⟩ := id G
  have lb : bs.length = g.blocks.length := by rw [eb, List.length_map]
  refine ⟨_, rfl, _, _, _, _, _, rfl, hg, M.tx.clG, M.tx.nG_sender, lkG_sender, _, rfl, _, _, _, _, _, rfl, hg, M.tx.clG, M.tx.nG_flags, lkG_flags, _, rfl, _, _, _, _, _, rfl, hg, M.tx.clG, M.tx.nG_sequence, lkG_sequence, _, rfl, _, _, _, _, _, rfl, hg, M.tx.clG, M.tx.nG_confirmed, lkG_confirmed, _, rfl, _, _, _, _, _, rfl, hg, M.tx.clG, M.tx.nG_window, lkG_window, _, rfl, _, _, _, _, _, rfl, hg, M.tx.clG, M.tx.nG_blocks, lkG_blocks, bl, _, rfl, .inl (SqL.of hgb), (by show 6 ≤ sizeLine; omega), fun f hf => ?_⟩
  rw [List.length_map, lb]
  generalize e1 : upd _ _ _ = H1
  have s1 : Same H H1 := by rw [← e1]; exact same_upd hf
  have hf1 : H1 f = some (.lst ([g.sender, g.flags, g.seq, g.confirmed, g.window, (g.blocks.length : Int)].map V.int)) := by rw [← e1]; exact upd_same
  refine ⟨_, rfl, _, _, _, _, _, rfl, s1 _ _ hg, M.tx.clG, M.tx.nG_blocks, lkG_blocks, bl, rfl, ⟨_, SqL.of (s1 _ _ hgb)⟩, ?_⟩
  refine for_list (K := K) (xs := bs.map fun q => V.ref q.1) (fun i σ H' => ∃ f v w, σ = [some (.ref sa), some (.ref f), v, w] ∧ Same H H' ∧ H' f = some (.lst (([g.sender, g.flags, g.seq, g.confirmed, g.window, (g.blocks.length : Int)] ++ (g.blocks.take i).flatMap fun b => [b.1, b.2]).map V.int)))
    ⟨f, none, none, rfl, s1, hf1⟩ (fun i σ H' _ ⟨_, _, _, _, s, _⟩ => SqL.of (s _ _ hgb)) ?_ ?_
  · rintro i x σ H' hx ⟨f, v, w, rfl, s, hf⟩
    rw [List.getElem?_map] at hx
    obtain ⟨q, hq, rfl⟩ := Option.map_eq_some_iff.mp hx
    have hbi : g.blocks[i]? = some q.2 := by rw [eb, List.getElem?_map, hq]; rfl
    have hil : i < g.blocks.length := (List.getElem?_eq_some_iff.mp hbi).1
    have hqt := s _ _ (hb q (List.mem_of_getElem? hq)).1
    refine ⟨q.1, _, rfl, SqT.of hqt, rfl, _, _, rfl, _, _, rfl, rfl, ?_⟩
    refine ⟨_, rfl, _, rfl, _, rfl, (by show 2 ≤ sizeLine; omega), fun w hw => ?_⟩
    generalize e2 : upd _ _ _ = H2
    have s2 : Same H' H2 := by rw [← e2]; exact same_upd hw
    have hw2 : H2 w = some (.lst ([q.2.1, q.2.2].map V.int)) := by rw [← e2]; exact upd_same
    refine ⟨_, _, _, _, rfl, rfl, s2 _ _ hf, hw2, ?_, fun z hz => ?_⟩
    · rw [List.length_map, List.length_append, fm_len (k := 2) (fun _ => rfl), List.length_take, List.length_map]
      show (6 + _) + 2 ≤ _
      omega
    · rw [← List.map_append]
      refine ⟨z, _, _, rfl, (s.trans s2).trans (same_upd hz), ?_⟩
      rw [upd_same, fm_take hbi, List.append_assoc]
  · rintro σ H2 ⟨f, v, w, rfl, s, hf⟩
    rw [List.length_map, lb, List.take_length] at hf
    refine ⟨_, rfl, _, rfl, _, _, _, _, _, rfl, s _ _ hg, M.tx.clG, M.tx.nG_payload, lkG_payload, _, _, _, _, rfl, rfl, hf, s _ _ hgp, ?_, fun z hz => ?_⟩
    · rw [List.length_map, List.length_append, fm_len (k := 2) (fun _ => rfl), List.length_map]
      show (6 + _) + _ ≤ _
      omega
    · rw [← List.map_append]
      exact hQ _ z (s.trans (same_upd hz)) upd_same (Same.back s hz)
def sp_deliver (K : PySem.W.Frag) : Sp := fun vs H Q _ => ∃ T L l, ∃ k : Nat, ∃ r, vs = [.ref L.lk, .int (k : Int)] ∧ RepL K H T L l ∧ k ≤ 10000 ∧ deliver l k = some r ∧ ∀ H' T' L', RepL K H' T' L' r.1 → NxL H T L H' T' L' → Q (.int r.2) H'
theorem sc_deliver : FnScope ["link", "index", "segment"] ["link", "index"] (defScope s_deliver) := ⟨rfl, rfl, rfl, by decide +kernel, rfl, by decide +kernel, by decide +kernel⟩
theorem ok_deliver (D : DefsOk K mg) (F_receive : OkF P w K mg base "receive" 10 ["link", "segment"] (sp_receive K)) (M_Endpoint_shown_state : OkM P w K mg base (He.ga K "Endpoint") "shown_state" 1 ["self"] (sp_Endpoint_shown_state K)) : OkF P w K mg base "deliver" 11 ["link", "index"] (sp_deliver K) := by
  have M := D.m
  refine okF (st := s_deliver) (N := ["link", "index", "segment"]) D.d_deliver D.g_deliver sc_deliver (fun vs H Q E h => ?_) (fun _ _ _ _ _ _ us hl => match us, hl with | [_, _], _ => rfl) (fun cdv A outer s H vs Q E hr h => ?_)
  · obtain ⟨T, L, l, k, r, rfl, R, bk, ht, hQ⟩ := h
    rfl
  obtain ⟨T, L, l, k, r, rfl, R, bk, ht, hQ⟩ := h
  refine ⟨_, (pss_cons (ps_set (i := 2) sc_deliver.nd rfl (Or.inl rfl) (pe_bm PySem.F.plainAttrs_list PySem.F.slot_list_pop PySem.F.type_list_pop mt_popAt (pe_fld (pv 0) rfl) (pa_cons (pv 1) pa_nil)))
      (pss_cons (ps_fldaug (pv 0) pe_int in_add)
      (pss_one (ps_ret (c_meth0 M_Endpoint_shown_state (hr.mono (by decide)) (c_call F_receive (hr.mono (by decide)) rfl (pa_cons (pv 0) (pa_cons (pv 2) pa_nil)))))))), ?_⟩
  unfold deliver at ht
  cases hg : l.n.segs[k]? with
  | none => rw [hg] at ht; cases ht
  | some g =>
    rw [hg] at ht
    obtain ⟨x, h1, h2⟩ := bind_some (show (receive { l with n := { l.n with segs := l.n.segs.eraseIdx k, delivered := l.n.delivered + 1 } } g).bind (fun r => some (r.1, (r.1.at r.2).shown)) = some r from ht)
    cases h2
    obtain ⟨a, ha⟩ := seg_at R.2 hg
    have hk : k < L.ss.length := (List.getElem?_eq_some_iff.mp ha).1
    obtain ⟨dl, hl⟩ := R.2.lk
    have es : (L.ss.eraseIdx k).map (·.2) = l.n.segs.eraseIdx k := by rw [← erase_map, ← R.2.ss]
    refine ⟨_, rfl, _, _, _, _, _, rfl, hl, M.tx.clL, M.tx.nL_segments, lkL_segments, .inl ⟨rfl, _, SqL.of R.2.sg⟩, _, rfl, L.segs, _, k, k, .ref a, rfl, rfl, R.2.sg, by omega, by omega, seq_nat (by rw [List.length_map]; exact hk), by rw [List.getElem?_map, ha]; rfl, ?_⟩
    rw [erase_map]
    generalize e1 : upd _ _ _ = H1
    obtain ⟨R1, F1⟩ := R.2.mutS (n' := { l.n with segs := l.n.segs.eraseIdx k }) (fun q m => R.2.sa q (mem_erase m)) (by rw [es]) e1
    have G := (R.2.sa _ (List.mem_of_getElem? ha)).fr F1
    obtain ⟨dl1, hl1⟩ := R1.lk
    refine ⟨_, rfl, _, _, _, _, _, rfl, hl1, M.tx.clL, M.tx.nL_delivered, lkL_delivered, _, _, rfl, rfl, dl1, _, hl1, lnL, ?_⟩
    rw [ptL_delivered]
    generalize e2 : upd _ _ _ = H2
    obtain ⟨R2, F2⟩ := R1.setL (n' := { l.n with segs := l.n.segs.eraseIdx k, delivered := l.n.delivered + 1 }) e2
    refine ⟨_, rfl, _, rfl, T, { L with ss := L.ss.eraseIdx k }, _, a, g, x, rfl, ⟨R.1, R2⟩, G.fr F2, h1, fun H3 T3 L3 R3 N3 => ?_⟩
    have ea : (foc L3 x.2).a = (foc { L with ss := L.ss.eraseIdx k } x.2).a := foc_a N3.2.1 N3.2.2.1 x.2
    obtain ⟨da3, ha3⟩ := (R3.fo x.2).ea.obj
    refine ⟨(foc L3 x.2).a, da3, _, by rw [ea], ha3, rfl, T3, foc L3 x.2, x.1.n, x.1.at x.2, x.1.at (!x.2), by rw [ea]; rfl, R3.fo x.2, fun H4 s4 => ?_⟩
    obtain ⟨R4, N4⟩ := R3.sameF s4
    exact hQ H4 T3 L3 R4 (NxL.trans (L1 := { L with ss := L.ss.eraseIdx k }) ⟨rfl, rfl, rfl, F1.trans F2⟩ (N3.trans N4))
def sp_drop (K : PySem.W.Frag) : Sp := fun vs H Q _ => ∃ T L l, ∃ k : Nat, vs = [.ref L.lk, .int (k : Int)] ∧ RepL K H T L l ∧ k < l.n.segs.length ∧ k ≤ 10000 ∧ ∀ H' T' L', RepL K H' T' L' (drop l k) → NxL H T L H' T' L' → Q .non H'
theorem sc_drop : FnScope ["link", "index"] ["link", "index"] (defScope s_drop) := ⟨rfl, rfl, rfl, by decide +kernel, rfl, by decide +kernel, by decide +kernel⟩
theorem ok_drop (D : DefsOk K mg)  : OkF P w K mg base "drop" 1 ["link", "index"] (sp_drop K) := by
  have M := D.m
  refine okF (st := s_drop) (N := ["link", "index"]) D.d_drop D.g_drop sc_drop (fun vs H Q E h => ?_) (fun _ _ _ _ _ _ us hl => match us, hl with | [_, _], _ => rfl) (fun cdv A outer s H vs Q E hr h => ?_)
  · obtain ⟨T, L, l, k, rfl, R, hk, bk, hQ⟩ := h
    rfl
  obtain ⟨T, L, l, k, rfl, R, hk, bk, hQ⟩ := h
  refine ⟨_, (pss_cons (ps_expr (pe_bm PySem.F.plainAttrs_list PySem.F.slot_list_pop PySem.F.type_list_pop mt_popAt (pe_fld (pv 0) rfl) (pa_cons (pv 1) pa_nil)))
      (pss_one (ps_fldaug (pv 0) pe_int in_add))), ?_⟩
  have hk : k < L.ss.length := by rw [ss_len R.2]; exact hk
  obtain ⟨dl, hl⟩ := R.2.lk
  have es : (L.ss.eraseIdx k).map (·.2) = l.n.segs.eraseIdx k := by rw [← erase_map, ← R.2.ss]
  refine ⟨_, rfl, _, _, _, _, _, rfl, hl, M.tx.clL, M.tx.nL_segments, lkL_segments, .inl ⟨rfl, _, SqL.of R.2.sg⟩, _, rfl, L.segs, _, k, k, _, rfl, rfl, R.2.sg, by omega, by omega, seq_nat (by rw [List.length_map]; exact hk), by rw [List.getElem?_map, List.getElem?_eq_getElem hk]; rfl, ?_⟩
  rw [erase_map]
  generalize e1 : upd _ _ _ = H1
  obtain ⟨R1, F1⟩ := R.2.mutS (n' := { l.n with segs := l.n.segs.eraseIdx k }) (fun q m => R.2.sa q (mem_erase m)) (by rw [es]) e1
  obtain ⟨dl1, hl1⟩ := R1.lk
  refine ⟨_, rfl, _, _, _, _, _, rfl, hl1, M.tx.clL, M.tx.nL_lost, lkL_lost, _, _, rfl, rfl, dl1, _, hl1, lnL, ?_⟩
  rw [ptL_lost]
  generalize e2 : upd _ _ _ = H2
  obtain ⟨R2, F2⟩ := R1.setL (n' := { l.n with segs := l.n.segs.eraseIdx k, lost := l.n.lost + 1 }) e2
  exact hQ H2 T { L with ss := L.ss.eraseIdx k } ⟨R.1, R2⟩ ⟨rfl, rfl, rfl, F1.trans F2⟩
def sp_copy_segment (K : PySem.W.Frag) : Sp := fun vs H Q _ => ∃ T L l, ∃ k : Nat, ∃ l', vs = [.ref L.lk, .int (k : Int)] ∧ RepL K H T L l ∧ copySegment l k = some l' ∧ ∀ H' T' L', RepL K H' T' L' l' → NxL H T L H' T' L' → Q .non H'
theorem sc_copy_segment : FnScope ["link", "index"] ["link", "index"] (defScope s_copy_segment) := ⟨rfl, rfl, rfl, by decide +kernel, rfl, by decide +kernel, by decide +kernel⟩
theorem ok_copy_segment (D : DefsOk K mg)  : OkF P w K mg base "copy_segment" 1 ["link", "index"] (sp_copy_segment K) := by
  have M := D.m
  refine okF (st := s_copy_segment) (N := ["link", "index"]) D.d_copy_segment D.g_copy_segment sc_copy_segment (fun vs H Q E h => ?_) (fun _ _ _ _ _ _ us hl => match us, hl with | [_, _], _ => rfl) (fun cdv A outer s H vs Q E hr h => ?_)
  · obtain ⟨T, L, l, k, l', rfl, R, ht, hQ⟩ := h
    rfl
  obtain ⟨T, L, l, k, l', rfl, R, ht, hQ⟩ := h
  refine ⟨_, (pss_one (ps_if (pt_cmp (pc_lt (pe_callB call_len_seq (by rfl) M.b_len bt_len (pa_cons (pe_fld (pv 0) rfl) pa_nil)) (pe_kon M.k_MOST_SEGMENTS))) (pss_one (ps_expr (pe_bm PySem.F.plainAttrs_list PySem.F.slot_list_append PySem.F.type_list_append mt_append (pe_fld (pv 0) rfl) (pa_cons (pe_ix ix_list (pe_fld (pv 0) rfl) (pv 1) (fun _ _ => rfl)) pa_nil)))) pss_nil)), ?_⟩
  unfold copySegment at ht
  have h16 : sizeLine = 16777216 := sizeLine_eq
  have ls := ss_len R.2
  obtain ⟨dl, hl⟩ := R.2.lk
  refine ⟨_, rfl, _, _, _, _, _, rfl, hl, M.tx.clL, M.tx.nL_segments, lkL_segments, L.segs, _, rfl, .inl (SqL.of R.2.sg), _, _, rfl, rfl, _, rfl, ?_⟩
  rw [List.length_map, ls]
  refine ifD (c := (l.n.segs.length : Int) < 60) (fun c => ?_) (fun c => ?_)
  · rw [if_pos c] at ht
    cases hg : l.n.segs[k]? with
    | none => rw [hg] at ht; cases ht
    | some g =>
      rw [hg] at ht
      cases ht
      obtain ⟨a, ha⟩ := seg_at R.2 hg
      refine ⟨_, rfl, _, _, _, _, _, rfl, hl, M.tx.clL, M.tx.nL_segments, lkL_segments, .inl ⟨rfl, _, SqL.of R.2.sg⟩, _, rfl, _, _, _, _, _, rfl, hl, M.tx.clL, M.tx.nL_segments, lkL_segments, _, rfl, L.segs, _, k, .ref a, rfl, rfl, SqL.of R.2.sg, at_of (j := k) rfl (by rw [List.getElem?_map, ha]; rfl), _, _, _, rfl, rfl, R.2.sg, by rw [List.length_map]; omega, ?_⟩
      rw [show (L.ss.map fun q => V.ref q.1) ++ [V.ref a] = (L.ss ++ [(a, g)]).map fun q => V.ref q.1 by rw [List.map_append]; rfl]
      generalize e1 : upd _ _ _ = H1
      obtain ⟨R1, F1⟩ := R.2.mutS (n' := { l.n with segs := l.n.segs ++ [g] }) (fun q m => by
        rcases List.mem_append.mp m with m | m
        · exact R.2.sa q m
        · rw [List.mem_singleton.mp m]
          exact R.2.sa _ (List.mem_of_getElem? ha)) (by rw [List.map_append, ← R.2.ss]; rfl) e1
      exact hQ H1 T { L with ss := L.ss ++ [(a, g)] } ⟨R.1, R1⟩ ⟨rfl, rfl, rfl, F1⟩
  · rw [if_neg c] at ht
    cases ht
    exact hQ H T L R (NxL.refl _ _ _)
def sp_postpone (K : PySem.W.Frag) : Sp := fun vs H Q _ => ∃ T L l, ∃ k : Nat, ∃ l', vs = [.ref L.lk, .int (k : Int)] ∧ RepL K H T L l ∧ k ≤ 10000 ∧ postpone l k = some l' ∧ ∀ H' T' L', RepL K H' T' L' l' → NxL H T L H' T' L' → Q .non H'
theorem sc_postpone : FnScope ["link", "index"] ["link", "index"] (defScope s_postpone) := ⟨rfl, rfl, rfl, by decide +kernel, rfl, by decide +kernel, by decide +kernel⟩
theorem ok_postpone (D : DefsOk K mg)  : OkF P w K mg base "postpone" 1 ["link", "index"] (sp_postpone K) := by
  have M := D.m
  refine okF (st := s_postpone) (N := ["link", "index"]) D.d_postpone D.g_postpone sc_postpone (fun vs H Q E h => ?_) (fun _ _ _ _ _ _ us hl => match us, hl with | [_, _], _ => rfl) (fun cdv A outer s H vs Q E hr h => ?_)
  · obtain ⟨T, L, l, k, l', rfl, R, bk, ht, hQ⟩ := h
    rfl
  obtain ⟨T, L, l, k, l', rfl, R, bk, ht, hQ⟩ := h
  refine ⟨_, (pss_one (ps_expr (pe_bm PySem.F.plainAttrs_list PySem.F.slot_list_append PySem.F.type_list_append mt_append (pe_fld (pv 0) rfl) (pa_cons (pe_bm PySem.F.plainAttrs_list PySem.F.slot_list_pop PySem.F.type_list_pop mt_popAt (pe_fld (pv 0) rfl) (pa_cons (pv 1) pa_nil)) pa_nil)))), ?_⟩
  unfold postpone at ht
  have h16 : sizeLine = 16777216 := sizeLine_eq
  have ls := ss_len R.2
  obtain ⟨dl, hl⟩ := R.2.lk
  cases hg : l.n.segs[k]? with
  | none => rw [hg] at ht; cases ht
  | some g =>
    rw [hg] at ht
    have ht : (if l.n.segs.length ≤ 10000 then some ({ l with n := { l.n with segs := l.n.segs.eraseIdx k ++ [g] } } : MLink) else none) = some l' := ht
    split at ht
    case isFalse => cases ht
    rename_i bl
    cases ht
    obtain ⟨a, ha⟩ := seg_at R.2 hg
    have hk : k < L.ss.length := (List.getElem?_eq_some_iff.mp ha).1
    have es : (L.ss.eraseIdx k).map (·.2) = l.n.segs.eraseIdx k := by rw [← erase_map, ← R.2.ss]
    refine ⟨_, rfl, _, _, _, _, _, rfl, hl, M.tx.clL, M.tx.nL_segments, lkL_segments, .inl ⟨rfl, _, SqL.of R.2.sg⟩, _, rfl, _, _, _, _, _, rfl, hl, M.tx.clL, M.tx.nL_segments, lkL_segments, .inl ⟨rfl, _, SqL.of R.2.sg⟩, _, rfl, L.segs, _, k, k, .ref a, rfl, rfl, R.2.sg, by omega, by omega, seq_nat (by rw [List.length_map]; exact hk), by rw [List.getElem?_map, ha]; rfl, ?_⟩
    rw [erase_map]
    generalize e1 : upd _ _ _ = H1
    obtain ⟨R1, F1⟩ := R.2.mutS (n' := { l.n with segs := l.n.segs.eraseIdx k }) (fun q m => R.2.sa q (mem_erase m)) (by rw [es]) e1
    have G := (R.2.sa _ (List.mem_of_getElem? ha)).fr F1
    refine ⟨_, _, _, rfl, rfl, R1.sg, ?_, ?_⟩
    · show ((L.ss.eraseIdx k).map fun q => V.ref q.1).length < _
      rw [List.length_map]
      have := List.length_eraseIdx_le L.ss k
      omega
    show Q _ (upd H1 L.segs (.lst (((L.ss.eraseIdx k).map fun q => V.ref q.1) ++ [V.ref a])))
    rw [show ((L.ss.eraseIdx k).map fun q => V.ref q.1) ++ [V.ref a] = (L.ss.eraseIdx k ++ [(a, g)]).map fun q => V.ref q.1 by rw [List.map_append]; rfl]
    generalize e2 : upd _ _ _ = H2
    obtain ⟨R2, F2⟩ := R1.mutS (ss' := L.ss.eraseIdx k ++ [(a, g)]) (n' := { l.n with segs := l.n.segs.eraseIdx k ++ [g] }) (fun q m => by
      rcases List.mem_append.mp m with m | m
      · exact R1.sa q m
      · rw [List.mem_singleton.mp m]
        exact G) (by rw [List.map_append, es]; rfl) e2
    exact hQ H2 T { L with ss := L.ss.eraseIdx k ++ [(a, g)] } ⟨R.1, R2⟩ ⟨rfl, rfl, rfl, F1.trans F2⟩
end
end Ws
set_option Elab.async false
set_option linter.all false
set_option maxRecDepth 100000
set_option maxHeartbeats 4000000
namespace Ws
open PySem PySem.Spec PyProof.Rows L2 Wt

section
variable {P : Program} {w : World} {K : PySem.W.Frag} {mg : Str → Option Value} {base : Heap}
def sp_segment_deed (K : PySem.W.Frag) : Sp := fun vs H Q _ => ∃ T L l op index, vs = [.ref L.lk, .int op, .int index] ∧ RepL K H T L l ∧ AnsQ K H T L (segmentDeed l op index) Q
theorem sc_segment_deed : FnScope ["link", "operation", "index"] ["link", "operation", "index"] (defScope s_segment_deed) := ⟨rfl, rfl, rfl, by decide +kernel, rfl, by decide +kernel, by decide +kernel⟩
theorem ok_segment_deed (D : DefsOk K mg) (F_copy_segment : OkF P w K mg base "copy_segment" 1 ["link", "index"] (sp_copy_segment K)) (F_deliver : OkF P w K mg base "deliver" 11 ["link", "index"] (sp_deliver K)) (F_drop : OkF P w K mg base "drop" 1 ["link", "index"] (sp_drop K)) (F_postpone : OkF P w K mg base "postpone" 1 ["link", "index"] (sp_postpone K)) (F_show_segment : OkF P w K mg base "show_segment" 1 ["segment"] (sp_show_segment K)) : OkF P w K mg base "segment_deed" 12 ["link", "operation", "index"] (sp_segment_deed K) := by
  have M := D.m
  refine okF (st := s_segment_deed) (N := ["link", "operation", "index"]) D.d_segment_deed D.g_segment_deed sc_segment_deed (fun vs H Q E h => ?_) (fun _ _ _ _ _ _ us hl => match us, hl with | [_, _, _], _ => rfl) (fun cdv A outer s H vs Q E hr h => ?_)
  · obtain ⟨T, L, l, op, index, rfl, R, A⟩ := h
    rfl
  obtain ⟨T, L, l, op, index, rfl, R, A⟩ := h
  refine ⟨_, (pss_cons (ps_if (pt_cmp (pc_ge (pv 2) (pe_callB call_len_seq (by rfl) M.b_len bt_len (pa_cons (pe_fld (pv 0) rfl) pa_nil)))) (pss_one (ps_ret (pe_lst (pa_cons (pe_kon M.k_NO_SIDE) pa_nil)))) pss_nil)
      (pss_cons (ps_if (pt_cmp (pc_eqI (pv 1) pe_int)) (pss_one (ps_ret (c_call F_show_segment (hr.mono (by decide)) rfl (pa_cons (pe_ix ix_list (pe_fld (pv 0) rfl) (pv 2) (fun _ _ => rfl)) pa_nil)))) pss_nil)
      (pss_cons (ps_if (pt_cmp (pc_eqI (pv 1) pe_int)) (pss_one (ps_ret (pe_lst (pa_cons (c_call F_deliver (hr.mono (by decide)) rfl (pa_cons (pv 0) (pa_cons (pv 2) pa_nil))) pa_nil)))) pss_nil)
      (pss_cons (ps_if (PW.pt (pw_and (pt_cmp (pc_eqI (pv 1) pe_int)) (pw_and1 (pt_cmp (pc_eqI (pe_callB call_len_seq (by rfl) M.b_len bt_len (pa_cons (pe_fld (pv 0) rfl) pa_nil)) (pe_kon M.k_MOST_SEGMENTS)))))) (pss_one (ps_ret (pe_lst (pa_cons (pe_kon M.k_FULL) pa_nil)))) pss_nil)
      (pss_cons (ps_if (pt_cmp (pc_eqI (pv 1) pe_int)) (pss_one (ps_expr (c_call F_drop (hr.mono (by decide)) rfl (pa_cons (pv 0) (pa_cons (pv 2) pa_nil))))) (pss_one (ps_if (pt_cmp (pc_eqI (pv 1) pe_int)) (pss_one (ps_expr (c_call F_copy_segment (hr.mono (by decide)) rfl (pa_cons (pv 0) (pa_cons (pv 2) pa_nil))))) (pss_one (ps_expr (c_call F_postpone (hr.mono (by decide)) rfl (pa_cons (pv 0) (pa_cons (pv 2) pa_nil))))))))
      (pss_one (ps_ret (pe_lst (pa_cons (pe_callB call_len_seq (by rfl) M.b_len bt_len (pa_cons (pe_fld (pv 0) rfl) pa_nil)) pa_nil))))))))), ?_⟩
  unfold segmentDeed at A
  have ls := ss_len R.2
  obtain ⟨dl, hl⟩ := R.2.lk
  refine ⟨_, rfl, _, rfl, _, _, _, _, _, rfl, hl, M.tx.clL, M.tx.nL_segments, lkL_segments, L.segs, _, rfl, .inl (SqL.of R.2.sg), _, _, rfl, rfl, _, rfl, ?_⟩
  rw [List.length_map, ls]
  refine ifD (c := (l.n.segs.length : Int) ≤ index) (fun c => ?_) (fun c => ?_)
  · rw [if_pos c] at A
    exact ⟨by show 1 ≤ sizeLine; decide, fun p hp => A.to R (NxL.refl _ _ _) hp⟩
  rw [if_neg c] at A
  by_cases cn : index < 0 ∨ 10000 < l.n.segs.length
  · rw [if_pos cn] at A
    exact A.non.elim
  rw [if_neg cn] at A
  obtain ⟨k, rfl⟩ := Int.eq_ofNat_of_zero_le (show 0 ≤ index by omega)
  rw [show ((k : Int)).toNat = k from Int.toNat_natCast k] at A
  have hk : k < l.n.segs.length := by omega
  have bk : k ≤ 10000 := by omega
  refine ⟨_, rfl, _, _, rfl, rfl, _, rfl, ?_⟩
  refine ifD (c := op = 7) (fun c7 => ?_) (fun c7 => ?_)
  · rw [if_pos c7] at A
    have hg : l.n.segs[k]? = some l.n.segs[k] := List.getElem?_eq_getElem hk
    generalize l.n.segs[k] = g at hg
    rw [hg] at A
    obtain ⟨⟨b1, b2⟩, A⟩ := AnsQ.if_ A
    obtain ⟨a, ha⟩ := seg_at R.2 hg
    refine ⟨_, rfl, _, _, _, _, _, rfl, hl, M.tx.clL, M.tx.nL_segments, lkL_segments, _, rfl, L.segs, _, k, .ref a, rfl, rfl, SqL.of R.2.sg, at_of (j := k) rfl (by rw [List.getElem?_map, ha]; rfl), T, a, g, rfl, R.2.sa _ (List.mem_of_getElem? ha), b1, b2, fun H1 p s1 hp hn => ?_⟩
    obtain ⟨R1, N1⟩ := R.sameF s1
    exact A.to2 R1 N1 hp hn
  rw [if_neg c7] at A
  refine ⟨_, rfl, _, _, rfl, rfl, _, rfl, ?_⟩
  refine ifD (c := op = 8) (fun c8 => ?_) (fun c8 => ?_)
  · rw [if_pos c8] at A
    obtain ⟨r, h1, A⟩ := A.bind
    exact ⟨_, rfl, _, rfl, T, L, l, k, r, rfl, R, bk, h1, fun H1 T1 L1 R1 N1 => ⟨by show 1 ≤ sizeLine; decide, fun p hp => A.to R1 N1 hp⟩⟩
  rw [if_neg c8] at A
  -- what is left when the network isn't full
  have rest : AnsQ K H T L (if op = 9 then ans (drop l k) [((drop l k).n.segs.length : Int)]
      else if op = 10 then (copySegment l k).bind fun l1 => ans l1 [(l1.n.segs.length : Int)]
      else (postpone l k).bind fun l1 => ans l1 [(l1.n.segs.length : Int)]) Q →
      tSeq (tIfS (tB (tEqI (tVar 1) (tC (V.int 9)))) (tDrop (tCall (sp_drop K) [] E0 (tCons (tVar 0) (tCons (tVar 2) tNil)))) (tIfS (tB (tEqI (tVar 1) (tC (V.int 10)))) (tDrop (tCall (sp_copy_segment K) [] E0 (tCons (tVar 0) (tCons (tVar 2) tNil)))) (tDrop (tCall (sp_postpone K) [] E0 (tCons (tVar 0) (tCons (tVar 2) tNil)))))) (tRet (tLst (tCons (tCB (fun xs H_1 Q => ∃ p ys, xs = [V.ref p] ∧ (SqL K H_1 p ys ∨ SqT K H_1 p ys) ∧ Q (V.int ys.length) H_1) (tCons (tFld K (tVar 0) "segments") tNil)) tNil)))
        { nx := fun _ H' => Q .non H', rt := Q } [some (.ref L.lk), some (.int op), some (.int (k : Int))] H := fun A => by
    have ret : ∀ l1, AnsQ K H T L (ans l1 [(l1.n.segs.length : Int)]) Q → ∀ H1 T1 L1, RepL K H1 T1 L1 l1 → NxL H T L H1 T1 L1 → tRet (tLst (tCons (tCB (fun xs H_1 Q => ∃ p ys, xs = [V.ref p] ∧ (SqL K H_1 p ys ∨ SqT K H_1 p ys) ∧ Q (V.int ys.length) H_1) (tCons (tFld K (tVar 0) "segments") tNil)) tNil))
        { nx := fun _ H' => Q .non H', rt := Q } [some (.ref L.lk), some (.int op), some (.int (k : Int))] H1 := fun l1 A H1 T1 L1 R1 N1 => by
      obtain ⟨dl1, hl1⟩ := R1.2.lk
      rw [N1.1] at hl1
      refine ⟨_, rfl, _, _, _, _, _, rfl, hl1, M.tx.clL, M.tx.nL_segments, lkL_segments, L1.segs, _, rfl, .inl (SqL.of R1.2.sg), (by show 1 ≤ sizeLine; decide), fun p hp => ?_⟩
      rw [List.length_map, ss_len R1.2]
      exact A.to R1 N1 hp
    refine ⟨_, rfl, _, _, rfl, rfl, _, rfl, ?_⟩
    refine ifD (c := op = 9) (fun c9 => ?_) (fun c9 => ?_)
    · rw [if_pos c9] at A
      exact ⟨_, rfl, _, rfl, T, L, l, k, rfl, R, hk, bk, ret _ A⟩
    rw [if_neg c9] at A
    refine ⟨_, rfl, _, _, rfl, rfl, _, rfl, ?_⟩
    refine ifD (c := op = 10) (fun c10 => ?_) (fun c10 => ?_)
    · rw [if_pos c10] at A
      obtain ⟨l1, h1, A⟩ := A.bind
      exact ⟨_, rfl, _, rfl, T, L, l, k, l1, rfl, R, h1, ret l1 A⟩
    · rw [if_neg c10] at A
      obtain ⟨l1, h1, A⟩ := A.bind
      exact ⟨_, rfl, _, rfl, T, L, l, k, l1, rfl, R, bk, h1, ret l1 A⟩
  refine ⟨_, rfl, _, _, rfl, rfl, _, rfl, ?_⟩
  refine ifD (c := op = 10) (fun c10 => ?_) (fun c10 => ?_)
  · refine ⟨_, rfl, _, _, _, _, _, rfl, hl, M.tx.clL, M.tx.nL_segments, lkL_segments, L.segs, _, rfl, .inl (SqL.of R.2.sg), _, _, rfl, rfl, _, rfl, ?_⟩
    rw [List.length_map, ls]
    refine ifD (c := (l.n.segs.length : Int) = 60) (fun c60 => ?_) (fun c60 => ?_)
    · rw [if_pos ⟨c10, c60⟩] at A
      exact ⟨by show 1 ≤ sizeLine; decide, fun p hp => A.to R (NxL.refl _ _ _) hp⟩
    · rw [if_neg (fun z => c60 z.2)] at A
      exact rest A
  · rw [if_neg (fun z => c10 z.1)] at A
    exact iteF (rest A)
/-! ### the clock -/
theorem next_timer_some {l : MLink} {i : Bool} (h : nextEnd l = some i) : ∃ t, (l.at i).timer = some t := by
  unfold nextEnd at h
  cases ha : l.a.timer with
  | none =>
    rw [ha] at h
    cases hb : l.b.timer with
    | none => rw [hb] at h; cases h
    | some u => rw [hb] at h; cases h; exact ⟨u, hb⟩
  | some t =>
    rw [ha] at h
    cases hb : l.b.timer with
    | none => rw [hb] at h; cases h; exact ⟨t, ha⟩
    | some u =>
      rw [hb] at h
      have h : (if u < t then some true else some false) = some i := h
      split at h
      · cases h; exact ⟨u, hb⟩
      · cases h; exact ⟨t, ha⟩
theorem lk_timer {e : MEnd} {y : ELay} {t : Int} (h : e.timer = some t) : (fE e y).lookup ("timer" : Str) = some (V.int t) := by
  have := lkE_timer (e := e) (y := y)
  rw [h] at this
  exact this
def sp_next_timer (K : PySem.W.Frag) : Sp := fun vs H Q _ => ∃ T L l, vs = [.ref L.lk] ∧ RepL K H T L l ∧ AnsQ K H T L (nextTimer l) Q
theorem sc_next_timer : FnScope ["link", "endpoint"] ["link"] (defScope s_next_timer) := ⟨rfl, rfl, rfl, by decide +kernel, rfl, by decide +kernel, by decide +kernel⟩
theorem ok_next_timer (D : DefsOk K mg) (F_next_endpoint : OkF P w K mg base "next_endpoint" 1 ["link"] (sp_next_endpoint K)) : OkF P w K mg base "next_timer" 2 ["link"] (sp_next_timer K) := by
  have M := D.m
  refine okF (st := s_next_timer) (N := ["link", "endpoint"]) D.d_next_timer D.g_next_timer sc_next_timer (fun vs H Q E h => ?_) (fun _ _ _ _ _ _ us hl => match us, hl with | [_], _ => rfl) (fun cdv A outer s H vs Q E hr h => ?_)
  · obtain ⟨T, L, l, rfl, R, A⟩ := h
    rfl
  obtain ⟨T, L, l, rfl, R, A⟩ := h
  refine ⟨_, (pss_cons (ps_set (i := 1) sc_next_timer.nd rfl (Or.inl rfl) (c_call F_next_endpoint (hr.mono (by decide)) rfl (pa_cons (pv 0) pa_nil)))
      (pss_one (ps_ret (pe_ifExp (pt_isN (pv 1)) (pe_lst (pa_cons (pe_kon M.k_NO_TIMER) pa_nil)) (pe_lst (pa_cons (pe_fld (pv 1) rfl) (pa_cons (pe_fld (pv 1) rfl) pa_nil))))))), ?_⟩
  unfold nextTimer at A
  refine ⟨_, rfl, T, L, l, rfl, R, fun H1 s1 => ?_⟩
  obtain ⟨R1, N1⟩ := R.sameF s1
  cases hn : nextEnd l with
  | none =>
    rw [hn] at A
    exact ⟨_, rfl, _, rfl, iteT ⟨by show 1 ≤ sizeLine; decide, fun p hp => A.to R1 N1 hp⟩⟩
  | some i =>
    obtain ⟨t, ht⟩ := next_timer_some hn
    rw [hn] at A
    have A : AnsQ K H T L (match (l.at i).timer with
      | none => none
      | some t => ans l [t, (l.at i).side]) Q := A
    rw [ht] at A
    obtain ⟨da, ha⟩ := (R1.fo i).ea.obj
    exact ⟨_, rfl, _, rfl, iteF ⟨_, rfl, _, _, _, _, _, rfl, ha, M.tx.clE, M.tx.nE_timer, lk_timer ht, _, rfl, _, _, _, _, _, rfl, ha, M.tx.clE, M.tx.nE_side, lkE_side, by show 2 ≤ sizeLine; decide, fun p hp => A.to R1 N1 hp⟩⟩
def sp_fire_timer (K : PySem.W.Frag) : Sp := fun vs H Q _ => ∃ T L l, vs = [.ref L.lk] ∧ RepL K H T L l ∧ AnsQ K H T L (fireTimer l) Q
theorem sc_fire_timer : FnScope ["link", "endpoint"] ["link"] (defScope s_fire_timer) := ⟨rfl, rfl, rfl, by decide +kernel, rfl, by decide +kernel, by decide +kernel⟩
theorem ok_fire_timer (D : DefsOk K mg) (F_fire : OkF P w K mg base "fire" 8 ["link", "endpoint"] (sp_fire K)) (F_next_endpoint : OkF P w K mg base "next_endpoint" 1 ["link"] (sp_next_endpoint K)) : OkF P w K mg base "fire_timer" 9 ["link"] (sp_fire_timer K) := by
  have M := D.m
  refine okF (st := s_fire_timer) (N := ["link", "endpoint"]) D.d_fire_timer D.g_fire_timer sc_fire_timer (fun vs H Q E h => ?_) (fun _ _ _ _ _ _ us hl => match us, hl with | [_], _ => rfl) (fun cdv A outer s H vs Q E hr h => ?_)
  · obtain ⟨T, L, l, rfl, R, A⟩ := h
    rfl
  obtain ⟨T, L, l, rfl, R, A⟩ := h
  refine ⟨_, (pss_cons (ps_set (i := 1) sc_fire_timer.nd rfl (Or.inl rfl) (c_call F_next_endpoint (hr.mono (by decide)) rfl (pa_cons (pv 0) pa_nil)))
      (pss_cons (ps_if (pt_isN (pv 1)) (pss_one (ps_ret (pe_lst (pa_cons (pe_kon M.k_NO_TIMER) pa_nil)))) pss_nil)
      (pss_cons (ps_expr (c_call F_fire (hr.mono (by decide)) rfl (pa_cons (pv 0) (pa_cons (pv 1) pa_nil))))
      (pss_one (ps_ret (pe_lst (pa_cons (pe_fld (pv 1) rfl) (pa_cons (pe_fld (pv 0) rfl) pa_nil)))))))), ?_⟩
  unfold fireTimer at A
  refine ⟨_, rfl, T, L, l, rfl, R, fun H1 s1 => ?_⟩
  obtain ⟨R1, N1⟩ := R.sameF s1
  cases hn : nextEnd l with
  | none =>
    rw [hn] at A
    exact ⟨_, rfl, _, rfl, iteT ⟨by show 1 ≤ sizeLine; decide, fun p hp => A.to R1 N1 hp⟩⟩
  | some i =>
    rw [hn] at A
    obtain ⟨l1, h1, A⟩ := AnsQ.bind (x := fire l i) A
    refine ⟨_, rfl, _, rfl, iteF ⟨_, rfl, _, rfl, T, L, l, i, l1, rfl, R1, h1, fun H2 T2 L2 R2 N2 => ?_⟩⟩
    obtain ⟨da, ha⟩ := (R2.fo i).ea.obj
    obtain ⟨dl, hl⟩ := R2.2.lk
    rw [N2.1] at hl
    rw [foc_a N2.2.1 N2.2.2.1 i] at ha
    exact ⟨_, rfl, _, _, _, _, _, rfl, ha, M.tx.clE, M.tx.nE_side, lkE_side, _, rfl, _, _, _, _, _, rfl, hl, M.tx.clL, M.tx.nL_now, lkL_now, by show 2 ≤ sizeLine; decide, fun p hp => A.to R2 (N1.trans N2) hp⟩
def sp_advance (K : PySem.W.Frag) : Sp := fun vs H Q _ => ∃ T L l d, vs = [.ref L.lk, .int d] ∧ RepL K H T L l ∧ AnsQ K H T L (advance l d) Q
theorem sc_advance : FnScope ["link", "duration", "end", "expired", "endpoint"] ["link", "duration"] (defScope s_advance) := ⟨rfl, rfl, rfl, by decide +kernel, rfl, by decide +kernel, by decide +kernel⟩
theorem ok_advance (D : DefsOk K mg) (F_fire : OkF P w K mg base "fire" 8 ["link", "endpoint"] (sp_fire K)) (F_next_endpoint : OkF P w K mg base "next_endpoint" 1 ["link"] (sp_next_endpoint K)) : OkF P w K mg base "advance" 9 ["link", "duration"] (sp_advance K) := by
  have M := D.m
  refine okF (st := s_advance) (N := ["link", "duration", "end", "expired", "endpoint"]) D.d_advance D.g_advance sc_advance (fun vs H Q E h => ?_) (fun _ _ _ _ _ _ us hl => match us, hl with | [_, _], _ => rfl) (fun cdv A outer s H vs Q E hr h => ?_)
  · obtain ⟨T, L, l, d, rfl, R, A⟩ := h
    rfl
  obtain ⟨T, L, l, d, rfl, R, A⟩ := h
  refine ⟨_, (pss_cons (ps_if (pt_cmp (pc_gt (pv 1) (pe_kon M.k_LONGEST))) (pss_one (ps_ret (pe_lst (pa_cons (pe_kon M.k_BEYOND) pa_nil)))) pss_nil)
      (pss_cons (ps_set (i := 2) sc_advance.nd rfl (Or.inl rfl) (pe_op op_add (pe_fld (pv 0) rfl) (pv 1)))
      (pss_cons (ps_set (i := 3) sc_advance.nd rfl (Or.inl rfl) pe_int)
      (pss_cons (ps_set (i := 4) sc_advance.nd rfl (Or.inl rfl) (c_call F_next_endpoint (hr.mono (by decide)) rfl (pa_cons (pv 0) pa_nil)))
      (pss_cons (ps_while PassesOwn.never (PW.pt (pw_and (pt_notN (pv 4)) (pw_and (pt_cmp (pc_le (pe_fld (pv 4) rfl) (pv 2))) (pw_and1 (pt_cmp (pc_lt (pv 3) (pe_kon M.k_MOST_EXPIRED))))))) (pss_cons (ps_expr (c_call F_fire (hr.mono (by decide)) rfl (pa_cons (pv 0) (pa_cons (pv 4) pa_nil))))
      (pss_cons (ps_aug (i := 3) sc_advance.nd rfl (Or.inl rfl) pe_int ip_add)
      (pss_one (ps_set (i := 4) sc_advance.nd rfl (Or.inl rfl) (c_call F_next_endpoint (hr.mono (by decide)) rfl (pa_cons (pv 0) pa_nil)))))))
      (pss_cons (ps_fld (pv 0) (pv 2) rfl)
      (pss_one (ps_ret (pe_lst (pa_cons (pv 3) (pa_cons (pv 2) pa_nil))))))))))), ?_⟩
  unfold advance at A
  obtain ⟨dl, hl⟩ := R.2.lk
  refine ⟨_, rfl, _, _, rfl, rfl, _, rfl, ?_⟩
  refine ifD (c := 100000 < d) (fun c => ?_) (fun c => ?_)
  · rw [if_pos c] at A
    exact ⟨by show 1 ≤ sizeLine; decide, fun p hp => A.to R (NxL.refl _ _ _) hp⟩
  rw [if_neg c] at A
  obtain ⟨r, h1, A⟩ := A.bind
  refine ⟨_, rfl, _, _, _, _, _, rfl, hl, M.tx.clL, M.tx.nL_now, lkL_now, _, rfl, _, _, rfl, rfl, ?_⟩
  refine ⟨_, rfl, T, L, l, rfl, R, fun H1 s1 => ?_⟩
  obtain ⟨R1, N1⟩ := R.sameF s1
  refine ⟨fun k σ H' => k ≤ 10000 ∧ ∃ T' L' l', σ = [some (.ref L.lk), some (.int d), some (.int (l.n.now + d)), some (.int (10000 - (k : Int))), some (endV L' (nextEnd l'))] ∧ RepL K H' T' L' l' ∧ NxL H T L H' T' L' ∧ advLoop (l.n.now + d) k (10000 - (k : Int)) l' = some r, ⟨10000, Nat.le_refl _, T, L, l, rfl, R1, N1, h1⟩, ?_⟩
  rintro k σ H2 ⟨hk, T2, L2, l2, rfl, R2, N2, h2⟩
  have leave : ∀ H3 T3 L3, RepL K H3 T3 L3 l2 → NxL H T L H3 T3 L3 → r = (l2, 10000 - (k : Int)) → ∀ v, tSeq (sFld K (tVar 0) (tVar 2) "now") (tRet (tLst (tCons (tVar 3) (tCons (tVar 2) tNil)))) { nx := fun _ H' => Q .non H', rt := Q } [some (.ref L.lk), some (.int d), some (.int (l.n.now + d)), some (.int (10000 - (k : Int))), v] H3 := fun H3 T3 L3 R3 N3 er v => by
    subst er
    obtain ⟨dl3, hl3⟩ := R3.2.lk
    rw [N3.1] at hl3
    refine ⟨_, rfl, _, rfl, _, _, _, _, rfl, hl3, M.tx.clL, M.tx.nL_now, lnL, ?_⟩
    rw [ptL_now]
    generalize e4 : upd _ _ _ = H4
    rw [← N3.1] at e4
    obtain ⟨R4, F4⟩ := R3.2.setL (n' := { l2.n with now := l.n.now + d }) e4
    exact ⟨_, rfl, _, rfl, by show 2 ≤ sizeLine; decide, fun p hp => A.to (l := { l2 with n := { l2.n with now := l.n.now + d } }) ⟨R3.1, R4⟩ (N3.trans (NxL.fr F4)) hp⟩
  cases hn : nextEnd l2 with
  | none =>
    have er : r = (l2, 10000 - (k : Int)) := by
      cases k with
      | zero => unfold advLoop at h2; exact (Option.some.inj h2).symm
      | succ k => unfold advLoop at h2; rw [hn] at h2; exact (Option.some.inj h2).symm
    exact ⟨_, rfl, _, rfl, iteF (iteF (leave H2 T2 L2 R2 N2 er _))⟩
  | some i =>
    obtain ⟨t, ht⟩ := next_timer_some hn
    obtain ⟨da, ha⟩ := (R2.fo i).ea.obj
    refine ⟨_, rfl, _, rfl, iteT ⟨_, rfl, _, _, _, _, _, rfl, ha, M.tx.clE, M.tx.nE_timer, lk_timer ht, _, rfl, _, _, rfl, rfl, _, rfl, ?_⟩⟩
    refine ifD (c := t ≤ l.n.now + d) (fun c1 => ?_) (fun c1 => ?_)
    · refine ⟨_, rfl, _, _, rfl, rfl, _, rfl, ?_⟩
      refine ifD (c := 10000 - (k : Int) < 10000) (fun c2 => ?_) (fun c2 => ?_)
      · cases k with
        | zero => omega
        | succ k =>
          unfold advLoop at h2
          rw [hn] at h2
          have h2 : (match (l2.at i).timer with
            | none => none
            | some t => if t ≤ l.n.now + d then (fire l2 i).bind fun l1 => advLoop (l.n.now + d) k (10000 - ((k + 1 : Nat) : Int) + 1) l1 else some (l2, 10000 - ((k + 1 : Nat) : Int))) = some r := h2
          rw [ht] at h2
          have h2 : (if t ≤ l.n.now + d then (fire l2 i).bind fun l1 => advLoop (l.n.now + d) k (10000 - ((k + 1 : Nat) : Int) + 1) l1 else some (l2, 10000 - ((k + 1 : Nat) : Int))) = some r := h2
          rw [if_pos c1] at h2
          obtain ⟨l3, h3, h4⟩ := bind_some h2
          refine ⟨_, fun σ' H' w => ⟨k, Nat.lt_succ_self k, w⟩, ?_⟩
          refine ⟨_, rfl, _, rfl, T2, L2, l2, i, l3, by rw [N2.1]; rfl, R2, h3, fun H3 T3 L3 R3 N3 => ?_⟩
          refine ⟨_, rfl, _, _, rfl, rfl, ?_⟩
          have N3' := N2.trans N3
          refine ⟨_, rfl, T3, L3, l3, by rw [N3'.1]; rfl, R3, fun H4 s4 => ?_⟩
          obtain ⟨R4, N4⟩ := R3.sameF s4
          have ek : 10000 - ((k + 1 : Nat) : Int) + 1 = 10000 - (k : Int) := by omega
          rw [ek] at h4
          refine ⟨by omega, T3, L3, l3, ?_, R4, N3'.trans N4, h4⟩
          show [some (.ref L.lk), some (.int d), some (.int (l.n.now + d)), some (.int (10000 - ((k + 1 : Nat) : Int) + 1)), some (endV L3 (nextEnd l3))] = _
          rw [ek]
      · have k0 : k = 0 := by omega
        subst k0
        have er : r = (l2, 10000 - ((0 : Nat) : Int)) := by unfold advLoop at h2; exact (Option.some.inj h2).symm
        exact leave H2 T2 L2 R2 N2 er _
    · have er : r = (l2, 10000 - (k : Int)) := by
        cases k with
        | zero => unfold advLoop at h2; exact (Option.some.inj h2).symm
        | succ k =>
          unfold advLoop at h2
          rw [hn] at h2
          have h2 : (match (l2.at i).timer with
            | none => none
            | some t => if t ≤ l.n.now + d then (fire l2 i).bind fun l1 => advLoop (l.n.now + d) k (10000 - ((k + 1 : Nat) : Int) + 1) l1 else some (l2, 10000 - ((k + 1 : Nat) : Int))) = some r := h2
          rw [ht] at h2
          have h2 : (if t ≤ l.n.now + d then (fire l2 i).bind fun l1 => advLoop (l.n.now + d) k (10000 - ((k + 1 : Nat) : Int) + 1) l1 else some (l2, 10000 - ((k + 1 : Nat) : Int))) = some r := h2
          rw [if_neg c1] at h2
          exact (Option.some.inj h2).symm
      exact iteF (leave H2 T2 L2 R2 N2 er _)
def sp_step (K : PySem.W.Frag) : Sp := fun vs H Q _ => ∃ T L l f l', vs = [.ref L.lk, .int f] ∧ RepL K H T L l ∧ step l f = some l' ∧ ∀ H' T' L', RepL K H' T' L' l' → NxL H T L H' T' L' → Q .non H'
theorem sc_step : FnScope ["link", "fate"] ["link", "fate"] (defScope s_step) := ⟨rfl, rfl, rfl, by decide +kernel, rfl, by decide +kernel, by decide +kernel⟩
theorem ok_step (D : DefsOk K mg) (F_copy_segment : OkF P w K mg base "copy_segment" 1 ["link", "index"] (sp_copy_segment K)) (F_deliver : OkF P w K mg base "deliver" 11 ["link", "index"] (sp_deliver K)) (F_drop : OkF P w K mg base "drop" 1 ["link", "index"] (sp_drop K)) (F_fire_timer : OkF P w K mg base "fire_timer" 9 ["link"] (sp_fire_timer K)) (F_postpone : OkF P w K mg base "postpone" 1 ["link", "index"] (sp_postpone K)) : OkF P w K mg base "step" 12 ["link", "fate"] (sp_step K) := by
  have M := D.m
  refine okF (st := s_step) (N := ["link", "fate"]) D.d_step D.g_step sc_step (fun vs H Q E h => ?_) (fun _ _ _ _ _ _ us hl => match us, hl with | [_, _], _ => rfl) (fun cdv A outer s H vs Q E hr h => ?_)
  · obtain ⟨T, L, l, f, l', rfl, R, ht, hQ⟩ := h
    rfl
  obtain ⟨T, L, l, f, l', rfl, R, ht, hQ⟩ := h
  refine ⟨_, (pss_one (ps_if (pt_cmpR (op_eqN (X := _) hr.units) (pe_fld (pv 0) rfl) (pe_lst pa_nil) (nomark _)) (pss_one (ps_expr (c_call F_fire_timer (hr.mono (by decide)) rfl (pa_cons (pv 0) pa_nil)))) (pss_one (ps_if (pt_cmp (pc_eqI (pv 1) pe_int)) (pss_one (ps_expr (c_call F_deliver (hr.mono (by decide)) rfl (pa_cons (pv 0) (pa_cons pe_int pa_nil))))) (pss_one (ps_if (pt_cmp (pc_eqI (pv 1) pe_int)) (pss_one (ps_expr (c_call F_drop (hr.mono (by decide)) rfl (pa_cons (pv 0) (pa_cons pe_int pa_nil))))) (pss_one (ps_if (pt_cmp (pc_eqI (pv 1) pe_int)) (pss_cons (ps_expr (c_call F_copy_segment (hr.mono (by decide)) rfl (pa_cons (pv 0) (pa_cons pe_int pa_nil))))
      (pss_one (ps_expr (c_call F_deliver (hr.mono (by decide)) rfl (pa_cons (pv 0) (pa_cons pe_int pa_nil)))))) (pss_one (ps_expr (c_call F_postpone (hr.mono (by decide)) rfl (pa_cons (pv 0) (pa_cons pe_int pa_nil))))))))))))), ?_⟩
  unfold step at ht
  obtain ⟨dl, hl⟩ := R.2.lk
  refine ⟨_, rfl, _, _, _, _, _, rfl, hl, M.tx.clL, M.tx.nL_segments, lkL_segments, (by show 0 ≤ sizeLine; decide), fun q hq => ?_⟩
  generalize e1 : upd _ _ _ = H1
  have s1 : Same H H1 := by rw [← e1]; exact same_upd hq
  have hq1 : H1 q = some (.lst []) := by rw [← e1]; exact upd_same
  obtain ⟨R1, N1⟩ := R.sameF s1
  have hQ : ∀ H' T' L', RepL K H' T' L' l' → NxL H1 T L H' T' L' → Q .non H' := fun H' T' L' R' N' => hQ H' T' L' R' (N1.trans N')
  clear e1 s1 N1 R hl
  obtain ⟨dl, hl⟩ := R1.2.lk
  refine ⟨_, q, _, rfl, rfl, SqL.of R1.2.sg, SqL.of hq1, _, rfl, ?_⟩
  refine ifE (fun em => ?_) (fun ne => ?_)
  · have z : l.n.segs = [] := by rw [R1.2.ss, List.map_eq_nil_iff.mp em]; rfl
    rw [if_pos z] at ht
    obtain ⟨r, h1, h2⟩ := bind_some ht
    cases h2
    exact ⟨_, rfl, T, L, l, rfl, R1, r, h1, fun H2 T2 L2 p R2 N2 _ _ => hQ H2 T2 L2 R2 N2⟩
  have nz : l.n.segs ≠ [] := fun z => ne (by rw [R1.2.ss] at z; rw [List.map_eq_nil_iff.mp z]; rfl)
  have h0 : 0 < l.n.segs.length := List.length_pos_iff.mpr nz
  rw [if_neg nz] at ht
  refine ⟨_, rfl, _, _, rfl, rfl, _, rfl, ?_⟩
  refine ifD (c := f = 0) (fun c0 => ?_) (fun c0 => ?_)
  · rw [if_pos c0] at ht
    obtain ⟨r, h1, h2⟩ := bind_some ht
    cases h2
    exact ⟨_, rfl, T, L, l, 0, r, rfl, R1, by omega, h1, hQ⟩
  rw [if_neg c0] at ht
  refine ⟨_, rfl, _, _, rfl, rfl, _, rfl, ?_⟩
  refine ifD (c := f = 1) (fun c1 => ?_) (fun c1 => ?_)
  · rw [if_pos c1] at ht
    cases ht
    exact ⟨_, rfl, T, L, l, 0, rfl, R1, h0, by omega, hQ⟩
  rw [if_neg c1] at ht
  refine ⟨_, rfl, _, _, rfl, rfl, _, rfl, ?_⟩
  refine ifD (c := f = 2) (fun c2 => ?_) (fun c2 => ?_)
  · rw [if_pos c2] at ht
    obtain ⟨l1, h1, h2⟩ := bind_some ht
    obtain ⟨r, h3, h4⟩ := bind_some h2
    cases h4
    refine ⟨_, rfl, T, L, l, 0, l1, rfl, R1, h1, fun H2 T2 L2 R2 N2 => ?_⟩
    exact ⟨_, rfl, T2, L2, l1, 0, r, by rw [N2.1]; rfl, R2, by omega, h3, fun H3 T3 L3 R3 N3 => hQ H3 T3 L3 R3 (N2.trans N3)⟩
  · rw [if_neg c2] at ht
    exact ⟨_, rfl, T, L, l, 0, l', rfl, R1, by omega, ht, hQ⟩
def sp_run (K : PySem.W.Frag) : Sp := fun vs H Q _ => ∃ T L l p, ∃ us : List Int, vs = [.ref L.lk, .ref p] ∧ RepL K H T L l ∧ H p = some (.lst (us.map V.int)) ∧ T p = .frz ∧ AnsQ K H T L (run l us) Q
theorem sc_run : FnScope ["link", "fates", "fate"] ["link", "fates"] (defScope s_run) := ⟨rfl, rfl, rfl, by decide +kernel, rfl, by decide +kernel, by decide +kernel⟩
theorem ok_run (D : DefsOk K mg) (F_step : OkF P w K mg base "step" 12 ["link", "fate"] (sp_step K)) : OkF P w K mg base "run" 13 ["link", "fates"] (sp_run K) := by
  have M := D.m
  refine okF (st := s_run) (N := ["link", "fates", "fate"]) D.d_run D.g_run sc_run (fun vs H Q E h => ?_) (fun _ _ _ _ _ _ us hl => match us, hl with | [_, _], _ => rfl) (fun cdv A outer s H vs Q E hr h => ?_)
  · obtain ⟨T, L, l, p, us, rfl, R, hp, tp, A⟩ := h
    rfl
  obtain ⟨T, L, l, p, us, rfl, R, hp, tp, A⟩ := h
  refine ⟨_, (pss_cons (ps_if (PW.pt (pw_or (pt_cmp (pc_gt (pe_callB call_len_seq (by rfl) M.b_len bt_len (pa_cons (pv 1) pa_nil)) (pe_kon M.k_MOST_FATES))) (pw_or1 (PW.pt (pw_and (pt_cmpR (op_neN (X := _) hr.units) (pv 1) (pe_lst pa_nil) (nomark _)) (pw_and1 (pt_cmp (pc_gt (pe_callB (cr_max rfl) (by rfl) M.b_max bt_max (pa_cons (pv 1) pa_nil)) pe_int)))))))) (pss_one (ps_ret (pe_lst (pa_cons (pe_kon M.k_BEYOND) pa_nil)))) pss_nil)
      (pss_cons (ps_for PassesOwn.never rfl (pi_list (pv 1)) (pg_name (i := 2) sc_run.nd rfl (Or.inl rfl)) (pss_one (ps_expr (c_call F_step (hr.mono (by decide)) rfl (pa_cons (pv 0) (pa_cons (pv 2) pa_nil))))))
      (pss_one (ps_ret (pe_lst (pa_cons (pe_callB call_len_seq (by rfl) M.b_len bt_len (pa_cons (pe_fld (pv 0) rfl) pa_nil)) (pa_cons (pe_fld (pv 0) rfl) pa_nil))))))), ?_⟩
  unfold run at A
  have bad : ∀ H1, RepL K H1 T L l → NxL H T L H1 T L → (us.length > 64 ∨ (us.any fun x => decide (3 < x)) = true) → tRet (tLst (tCons (tC (V.int (-22))) tNil)) { nx := fun _ H' => Q .non H', rt := Q } [some (.ref L.lk), some (.ref p), none] H1 := fun H1 R1 N1 c => by
    rw [if_pos (c.imp (fun z => by omega) id)] at A
    exact ⟨by show 1 ≤ sizeLine; decide, fun p hp => A.to R1 N1 hp⟩
  have good : ∀ H1, RepL K H1 T L l → NxL H T L H1 T L → ¬ (us.length > 64) → (us.any fun x => decide (3 < x)) = false →
      tSeq (tFor (iList K (tVar 1)) (gName 2) (tDrop (tCall (sp_step K) [] E0 (tCons (tVar 0) (tCons (tVar 2) tNil))))) (tRet (tLst (tCons (tCB (fun xs H_1 Q => ∃ p ys, xs = [V.ref p] ∧ (SqL K H_1 p ys ∨ SqT K H_1 p ys) ∧ Q (V.int ys.length) H_1) (tCons (tFld K (tVar 0) "segments") tNil)) (tCons (tFld K (tVar 0) "now") tNil)))) { nx := fun _ H' => Q .non H', rt := Q } [some (.ref L.lk), some (.ref p), none] H1 := fun H1 R1 N1 c1 c2 => by
    rw [if_neg (by rw [c2]; rintro (z | z); omega; cases z)] at A
    obtain ⟨lz, hz, A⟩ := A.bind
    have keep : ∀ {H2 T2 L2}, NxL H T L H2 T2 L2 → H2 p = some (.lst (us.map V.int)) := fun N => (N.2.2.2 p _ hp).2.2 (.inl tp)
    refine ⟨_, rfl, p, rfl, ⟨_, SqL.of (keep N1)⟩, ?_⟩
    refine for_list (K := K) (xs := us.map V.int) (fun i σ H' => ∃ v T' L' l', σ = [some (.ref L.lk), some (.ref p), v] ∧ RepL K H' T' L' l' ∧ NxL H T L H' T' L' ∧ steps (us.drop i) l' = some lz) ⟨none, T, L, l, rfl, R1, N1, hz⟩ (fun i σ H' _ ⟨_, _, _, _, _, _, N, _⟩ => SqL.of (keep N)) ?_ ?_
    · rintro i x σ H2 hx ⟨v, T2, L2, l2, rfl, R2, N2, h2⟩
      rw [List.getElem?_map] at hx
      obtain ⟨f, hf, rfl⟩ := Option.map_eq_some_iff.mp hx
      obtain ⟨hl, ef⟩ := List.getElem?_eq_some_iff.mp hf
      rw [List.drop_eq_getElem_cons hl, ef] at h2
      obtain ⟨l3, h3, h4⟩ := bind_some (show (step l2 f).bind (fun l1 => steps (us.drop (i + 1)) l1) = some lz from h2)
      exact ⟨_, rfl, _, rfl, T2, L2, l2, f, l3, by rw [N2.1]; rfl, R2, h3, fun H3 T3 L3 R3 N3 => ⟨_, T3, L3, l3, rfl, R3, N2.trans N3, h4⟩⟩
    · rintro σ H2 ⟨v, T2, L2, l2, rfl, R2, N2, h2⟩
      rw [List.length_map, List.drop_length] at h2
      cases h2
      obtain ⟨dl2, hl2⟩ := R2.2.lk
      rw [N2.1] at hl2
      refine ⟨_, rfl, _, _, _, _, _, rfl, hl2, M.tx.clL, M.tx.nL_segments, lkL_segments, L2.segs, _, rfl, .inl (SqL.of R2.2.sg), _, rfl, _, _, _, _, _, rfl, hl2, M.tx.clL, M.tx.nL_now, lkL_now, (by show 2 ≤ sizeLine; decide), fun q hq => ?_⟩
      rw [List.length_map, ss_len R2.2]
      exact A.to R2 N2 hq
  refine ⟨_, rfl, p, _, rfl, .inl (SqL.of hp), _, _, rfl, rfl, _, rfl, ?_⟩
  rw [List.length_map]
  refine ifD (c := (64 : Int) < (us.length : Int)) (fun c => ?_) (fun c => ?_)
  · exact iteT (bad H R (NxL.refl _ _ _) (.inl (by omega)))
  have c1 : ¬ (us.length > 64) := by omega
  refine ⟨_, rfl, (by show 0 ≤ sizeLine; decide), fun q hq => ?_⟩
  generalize e1 : upd _ _ _ = H1
  have s1 : Same H H1 := by rw [← e1]; exact same_upd hq
  have hq1 : H1 q = some (.lst []) := by rw [← e1]; exact upd_same
  obtain ⟨R1, N1⟩ := R.sameF s1
  have hp1 := s1 _ _ hp
  refine ⟨p, q, _, rfl, rfl, SqL.of hp1, SqL.of hq1, _, rfl, ?_⟩
  refine ifNE (fun ne => ?_) (fun em => ?_)
  · have un : us ≠ [] := fun z => ne (by rw [z]; rfl)
    refine ⟨_, rfl, p, us, rfl, SqL.of hp1, List.length_pos_iff.mpr un, fun m h1 h2 => ?_⟩
    have am := any_max (c := 3) h1 h2
    refine ⟨_, _, rfl, rfl, _, rfl, ?_⟩
    refine ifD (c := 3 < m) (fun c => ?_) (fun c => ?_)
    · rw [decide_eq_true c] at am
      exact bad H1 R1 N1 (.inr am)
    · rw [decide_eq_false c] at am
      exact good H1 R1 N1 c1 am
  · have un : us = [] := List.map_eq_nil_iff.mp em
    exact iteF (good H1 R1 N1 c1 (by rw [un]; rfl))
end
end Ws
set_option Elab.async false
set_option linter.all false
set_option maxRecDepth 100000
set_option maxHeartbeats 4000000
namespace Ws
open PySem PySem.Spec PyProof.Rows L2 Wt

section
variable {P : Program} {w : World} {K : PySem.W.Frag} {mg : Str → Option Value} {base : Heap}
def sp_status (K : PySem.W.Frag) : Sp := fun vs H Q _ => ∃ T L l i, vs = [.ref L.lk, .ref (foc L i).a] ∧ RepL K H T L l ∧ AnsQ K H T L (status l i) Q
theorem sc_status : FnScope ["link", "endpoint", "found"] ["link", "endpoint"] (defScope s_status) := ⟨rfl, rfl, rfl, by decide +kernel, rfl, by decide +kernel, by decide +kernel⟩
theorem ok_status (D : DefsOk K mg) (M_Endpoint_in_flight : OkM P w K mg base (He.ga K "Endpoint") "in_flight" 1 ["self"] (sp_Endpoint_in_flight K)) (M_Endpoint_shown_state : OkM P w K mg base (He.ga K "Endpoint") "shown_state" 1 ["self"] (sp_Endpoint_shown_state K)) (M_Link_window_of : OkM P w K mg base (He.ga K "Link") "window_of" 1 ["self", "endpoint"] (sp_Link_window_of K)) : OkF P w K mg base "status" 2 ["link", "endpoint"] (sp_status K) := by
  have M := D.m
  refine okF (st := s_status) (N := ["link", "endpoint", "found"]) D.d_status D.g_status sc_status (fun vs H Q E h => ?_) (fun _ _ _ _ _ _ us hl => match us, hl with | [_, _], _ => rfl) (fun cdv A outer s H vs Q E hr h => ?_)
  · obtain ⟨T, L, l, i, rfl, R, A⟩ := h
    rfl
  obtain ⟨T, L, l, i, rfl, R, A⟩ := h
  refine ⟨_, (pss_cons (ps_set (i := 2) sc_status.nd rfl (Or.inl rfl) (pe_lst (pa_cons (c_meth0 M_Endpoint_shown_state (hr.mono (by decide)) (pv 1)) (pa_cons (pe_callB call_len_seq (by rfl) M.b_len bt_len (pa_cons (pe_fld (pv 1) rfl) pa_nil)) (pa_cons (c_meth0 M_Endpoint_in_flight (hr.mono (by decide)) (pv 1)) (pa_cons (pe_callB call_len_seq (by rfl) M.b_len bt_len (pa_cons (pe_fld (pv 1) rfl) pa_nil)) pa_nil))))))
      (pss_one (ps_ret (pe_op op_cat (pv 2) (pe_lst (pa_cons (pe_callB call_lenD (by rfl) M.b_len bt_len (pa_cons (pe_fld (pv 1) rfl) pa_nil)) (pa_cons (c_meth M_Link_window_of (hr.mono (by decide)) (pv 0) (pa_cons (pv 1) pa_nil)) (pa_cons (pe_fld (pv 1) rfl) pa_nil)))))))), ?_⟩
  unfold status at A
  have Rf := R.fo i
  obtain ⟨da, ha⟩ := Rf.ea.obj
  refine ⟨_, rfl, (foc L i).a, da, _, rfl, ha, rfl, T, foc L i, l.n, l.at i, l.at (!i), rfl, Rf, fun H1 s1 => ?_⟩
  obtain ⟨R1, N1⟩ := R.sameF s1
  have Rg := R1.fo i
  have ha1 := s1 _ _ ha
  obtain ⟨dl, hl⟩ := R1.2.lk
  refine ⟨_, rfl, _, _, _, _, _, rfl, ha1, M.tx.clE, M.tx.nE_unsent, lkE_unsent, _, _, rfl, .inl (SqL.of Rg.ea.c.un), _, rfl, (foc L i).a, da, _, rfl, ha1, rfl, (foc L i).a, da, l.at i, (foc L i).y, rfl, ha1, _, rfl, _, _, _, _, _, rfl, ha1, M.tx.clE, M.tx.nE_readable, lkE_readable, _, _, rfl, .inl (SqL.of Rg.ea.c.rd), (by show 4 ≤ sizeLine; decide), fun f hf => ?_⟩
  rw [List.length_map, List.length_map]
  generalize e2 : upd _ _ _ = H2
  have s2 : Same H1 H2 := by rw [← e2]; exact same_upd hf
  obtain ⟨hf2, _⟩ := keep_upd e2
  obtain ⟨R2, N2⟩ := R1.sameF s2
  have Rh := R2.fo i
  have ha2 := s2 _ _ ha1
  have hl2 := s2 _ _ hl
  refine ⟨_, rfl, _, rfl, _, _, _, _, _, rfl, ha2, M.tx.clE, M.tx.nE_early, lkE_early, _, _, rfl, Rh.ea.c.ea, _, rfl, L.lk, dl, _, rfl, hl2, rfl, _, rfl, T, foc L i, l.n, l.at i, l.at (!i), by rw [foc_lk]; rfl, Rh, _, rfl, _, _, _, _, _, rfl, ha2, M.tx.clE, M.tx.nE_peer_window, lkE_peer_window, (by show 3 ≤ sizeLine; decide), fun g hg => ?_⟩
  rw [List.length_map]
  generalize e3 : upd _ _ _ = H3
  have s3 : Same H2 H3 := by rw [← e3]; exact same_upd hg
  obtain ⟨hg3, _⟩ := keep_upd e3
  obtain ⟨R3, N3⟩ := R2.sameF s3
  exact ⟨_, _, _, _, rfl, rfl, s3 _ _ hf2, hg3, by show 4 + 3 ≤ sizeLine; decide, fun z hz => A.to R3 ((N1.trans N2).trans N3) hz⟩
def sp_congestion (K : PySem.W.Frag) : Sp := fun vs H Q _ => ∃ T L l i, vs = [.ref (foc L i).a] ∧ RepL K H T L l ∧ AnsQ K H T L (congestion l i) Q
theorem sc_congestion : FnScope ["endpoint", "found"] ["endpoint"] (defScope s_congestion) := ⟨rfl, rfl, rfl, by decide +kernel, rfl, by decide +kernel, by decide +kernel⟩
theorem ok_congestion (D : DefsOk K mg)  : OkF P w K mg base "congestion" 1 ["endpoint"] (sp_congestion K) := by
  have M := D.m
  refine okF (st := s_congestion) (N := ["endpoint", "found"]) D.d_congestion D.g_congestion sc_congestion (fun vs H Q E h => ?_) (fun _ _ _ _ _ _ us hl => match us, hl with | [_], _ => rfl) (fun cdv A outer s H vs Q E hr h => ?_)
  · obtain ⟨T, L, l, i, rfl, R, A⟩ := h
    rfl
  obtain ⟨T, L, l, i, rfl, R, A⟩ := h
  refine ⟨_, (pss_cons (ps_set (i := 1) sc_congestion.nd rfl (Or.inl rfl) (pe_lst (pa_cons (pe_fld (pv 0) rfl) (pa_cons (pe_fld (pv 0) rfl) (pa_cons (pe_fld (pv 0) rfl) (pa_cons (pe_fld (pv 0) rfl) (pa_cons (pe_fld (pv 0) rfl) pa_nil)))))))
      (pss_one (ps_ret (pe_op op_cat (pv 1) (pe_lst (pa_cons (pe_callTy call_int1 (by rfl) M.b_int bt_int (pa_cons (pe_fld (pv 0) rfl) pa_nil)) (pa_cons (pe_fld (pv 0) rfl) (pa_cons (pe_fld (pv 0) rfl) pa_nil)))))))), ?_⟩
  unfold congestion at A
  obtain ⟨da, ha⟩ := (R.fo i).ea.obj
  refine ⟨_, rfl, _, _, _, _, _, rfl, ha, M.tx.clE, M.tx.nE_congestion, lkE_congestion, _, rfl, _, _, _, _, _, rfl, ha, M.tx.clE, M.tx.nE_threshold, lkE_threshold, _, rfl, _, _, _, _, _, rfl, ha, M.tx.clE, M.tx.nE_timeout, lkE_timeout, _, rfl, _, _, _, _, _, rfl, ha, M.tx.clE, M.tx.nE_duplicates, lkE_duplicates, _, rfl, _, _, _, _, _, rfl, ha, M.tx.clE, M.tx.nE_retransmissions, lkE_retransmissions, (by show 5 ≤ sizeLine; decide), fun f hf => ?_⟩
  generalize e2 : upd _ _ _ = H2
  have s2 : Same H H2 := by rw [← e2]; exact same_upd hf
  obtain ⟨hf2, _⟩ := keep_upd e2
  obtain ⟨R2, N2⟩ := R.sameF s2
  have ha2 := s2 _ _ ha
  refine ⟨_, rfl, _, rfl, _, _, _, _, _, rfl, ha2, M.tx.clE, M.tx.nE_measured, lkE_measured, .inr ⟨_, rfl, _, rfl, _, _, _, _, _, rfl, ha2, M.tx.clE, M.tx.nE_smoothed, lkE_smoothed, _, rfl, _, _, _, _, _, rfl, ha2, M.tx.clE, M.tx.nE_variation, lkE_variation, (by show 3 ≤ sizeLine; decide), fun g hg => ?_⟩⟩
  generalize e3 : upd _ _ _ = H3
  have s3 : Same H2 H3 := by rw [← e3]; exact same_upd hg
  obtain ⟨hg3, _⟩ := keep_upd e3
  obtain ⟨R3, N3⟩ := R2.sameF s3
  exact ⟨_, _, _, _, rfl, rfl, s3 _ _ hf2, hg3, by show 5 + 3 ≤ sizeLine; decide, fun z hz => A.to R3 (N2.trans N3) hz⟩
def sp_totals (K : PySem.W.Frag) : Sp := fun vs H Q _ => ∃ T L l i, vs = [.ref (foc L i).a] ∧ RepL K H T L l ∧ AnsQ K H T L (totals l i) Q
theorem sc_totals : FnScope ["endpoint", "found"] ["endpoint"] (defScope s_totals) := ⟨rfl, rfl, rfl, by decide +kernel, rfl, by decide +kernel, by decide +kernel⟩
theorem ok_totals (D : DefsOk K mg)  : OkF P w K mg base "totals" 1 ["endpoint"] (sp_totals K) := by
  have M := D.m
  refine okF (st := s_totals) (N := ["endpoint", "found"]) D.d_totals D.g_totals sc_totals (fun vs H Q E h => ?_) (fun _ _ _ _ _ _ us hl => match us, hl with | [_], _ => rfl) (fun cdv A outer s H vs Q E hr h => ?_)
  · obtain ⟨T, L, l, i, rfl, R, A⟩ := h
    rfl
  obtain ⟨T, L, l, i, rfl, R, A⟩ := h
  refine ⟨_, (pss_cons (ps_set (i := 1) sc_totals.nd rfl (Or.inl rfl) (pe_lst (pa_cons (pe_fld (pv 0) rfl) (pa_cons (pe_fld (pv 0) rfl) (pa_cons (pe_fld (pv 0) rfl) pa_nil)))))
      (pss_one (ps_ret (pe_op op_cat (pv 1) (pe_lst (pa_cons (pe_fld (pv 0) rfl) (pa_cons (pe_fld (pv 0) rfl) pa_nil))))))), ?_⟩
  unfold totals at A
  obtain ⟨da, ha⟩ := (R.fo i).ea.obj
  refine ⟨_, rfl, _, _, _, _, _, rfl, ha, M.tx.clE, M.tx.nE_written, lkE_written, _, rfl, _, _, _, _, _, rfl, ha, M.tx.clE, M.tx.nE_acknowledged, lkE_acknowledged, _, rfl, _, _, _, _, _, rfl, ha, M.tx.clE, M.tx.nE_next_position, lkE_next_position, (by show 3 ≤ sizeLine; decide), fun f hf => ?_⟩
  generalize e2 : upd _ _ _ = H2
  have s2 : Same H H2 := by rw [← e2]; exact same_upd hf
  obtain ⟨hf2, _⟩ := keep_upd e2
  obtain ⟨R2, N2⟩ := R.sameF s2
  have ha2 := s2 _ _ ha
  refine ⟨_, rfl, _, rfl, _, _, _, _, _, rfl, ha2, M.tx.clE, M.tx.nE_expected, lkE_expected, _, rfl, _, _, _, _, _, rfl, ha2, M.tx.clE, M.tx.nE_consumed, lkE_consumed, (by show 2 ≤ sizeLine; decide), fun g hg => ?_⟩
  generalize e3 : upd _ _ _ = H3
  have s3 : Same H2 H3 := by rw [← e3]; exact same_upd hg
  obtain ⟨hg3, _⟩ := keep_upd e3
  obtain ⟨R3, N3⟩ := R2.sameF s3
  exact ⟨_, _, _, _, rfl, rfl, s3 _ _ hf2, hg3, by show 3 + 2 ≤ sizeLine; decide, fun z hz => A.to R3 (N2.trans N3) hz⟩
def sp_statistics (K : PySem.W.Frag) : Sp := fun vs H Q _ => ∃ T L l, vs = [.ref L.lk] ∧ RepL K H T L l ∧ AnsQ K H T L (statistics l) Q
theorem sc_statistics : FnScope ["link"] ["link"] (defScope s_statistics) := ⟨rfl, rfl, rfl, by decide +kernel, rfl, by decide +kernel, by decide +kernel⟩
theorem ok_statistics (D : DefsOk K mg)  : OkF P w K mg base "statistics" 1 ["link"] (sp_statistics K) := by
  have M := D.m
  refine okF (st := s_statistics) (N := ["link"]) D.d_statistics D.g_statistics sc_statistics (fun vs H Q E h => ?_) (fun _ _ _ _ _ _ us hl => match us, hl with | [_], _ => rfl) (fun cdv A outer s H vs Q E hr h => ?_)
  · obtain ⟨T, L, l, rfl, R, A⟩ := h
    rfl
  obtain ⟨T, L, l, rfl, R, A⟩ := h
  refine ⟨_, (pss_one (ps_ret (pe_lst (pa_cons (pe_fld (pv 0) rfl) (pa_cons (pe_fld (pv 0) rfl) (pa_cons (pe_fld (pv 0) rfl) (pa_cons (pe_callB call_len_seq (by rfl) M.b_len bt_len (pa_cons (pe_fld (pv 0) rfl) pa_nil)) (pa_cons (pe_fld (pv 0) rfl) pa_nil)))))))), ?_⟩
  unfold statistics at A
  obtain ⟨dl, hl⟩ := R.2.lk
  refine ⟨_, rfl, _, _, _, _, _, rfl, hl, M.tx.clL, M.tx.nL_sent, lkL_sent, _, rfl, _, _, _, _, _, rfl, hl, M.tx.clL, M.tx.nL_delivered, lkL_delivered, _, rfl, _, _, _, _, _, rfl, hl, M.tx.clL, M.tx.nL_lost, lkL_lost, _, rfl, _, _, _, _, _, rfl, hl, M.tx.clL, M.tx.nL_segments, lkL_segments, _, _, rfl, .inl (SqL.of R.2.sg), _, rfl, _, _, _, _, _, rfl, hl, M.tx.clL, M.tx.nL_now, lkL_now, (by show 5 ≤ sizeLine; decide), fun f hf => ?_⟩
  rw [List.length_map, ss_len R.2]
  exact A.to R (NxL.refl _ _ _) hf
def sp_list_outstanding (K : PySem.W.Frag) : Sp := fun vs H Q _ => ∃ T L l i, vs = [.ref (foc L i).a] ∧ RepL K H T L l ∧ AnsQ K H T L (listOutstanding l i) Q
theorem sc_list_outstanding : FnScope ["endpoint", "found", "part"] ["endpoint"] (defScope s_list_outstanding) := ⟨rfl, rfl, rfl, by decide +kernel, rfl, by decide +kernel, by decide +kernel⟩
theorem ok_list_outstanding (D : DefsOk K mg) (M_Part_end : OkM P w K mg base (He.ga K "Part") "end" 1 ["self"] (sp_Part_end K)) : OkF P w K mg base "list_outstanding" 2 ["endpoint"] (sp_list_outstanding K) := by
  have M := D.m
  refine okF (st := s_list_outstanding) (N := ["endpoint", "found", "part"]) D.d_list_outstanding D.g_list_outstanding sc_list_outstanding (fun vs H Q E h => ?_) (fun _ _ _ _ _ _ us hl => match us, hl with | [_], _ => rfl) (fun cdv A outer s H vs Q E hr h => ?_)
  · obtain ⟨T, L, l, i, rfl, R, A⟩ := h
    rfl
  obtain ⟨T, L, l, i, rfl, R, A⟩ := h
  refine ⟨_, (pss_cons (ps_set (i := 1) sc_list_outstanding.nd rfl (Or.inl rfl) (pe_lst (pa_cons (pe_callB call_len_seq (by rfl) M.b_len bt_len (pa_cons (pe_fld (pv 0) rfl) pa_nil)) pa_nil)))
      (pss_cons (ps_for PassesOwn.never rfl (pi_list (pe_fld (pv 0) rfl)) (pg_name (i := 2) sc_list_outstanding.nd rfl (Or.inl rfl)) (pss_one (ps_set (i := 1) sc_list_outstanding.nd rfl (Or.inl rfl) (pe_op op_cat (pv 1) (pe_lst (pa_cons (pe_fld (pv 2) rfl) (pa_cons (pe_op op_sub (c_meth0 M_Part_end (hr.mono (by decide)) (pv 2)) (pe_fld (pv 2) rfl)) (pa_cons (pe_fld (pv 2) rfl) (pa_cons (pe_callTy call_int1 (by rfl) M.b_int bt_int (pa_cons (pe_fld (pv 2) rfl) pa_nil)) pa_nil)))))))))
      (pss_one (ps_ret (pv 1))))), ?_⟩
  obtain ⟨b1, A⟩ := AnsQ.if_ (f := ans l (((l.at i).parts.length : Int) :: (l.at i).parts.flatMap partRow)) A
  have h16 : sizeLine = 16777216 := sizeLine_eq
  have Rf := R.fo i
  obtain ⟨da, ha⟩ := Rf.ea.obj
  have C := Rf.ea.c
  have lp : (foc L i).y.ps.length = (l.at i).parts.length := by rw [C.ps, List.length_map]
  refine ⟨_, rfl, _, _, _, _, _, rfl, ha, M.tx.clE, M.tx.nE_parts, lkE_parts, (foc L i).y.pts, _, rfl, .inl (SqL.of C.pts), (by show 1 ≤ sizeLine; omega), fun f hf => ?_⟩
  rw [List.length_map, lp]
  generalize e1 : upd _ _ _ = H1
  have s1 : Same H H1 := by rw [← e1]; exact same_upd hf
  have hf1 : H1 f = some (.lst [.int ((l.at i).parts.length : Int)]) := by rw [← e1]; exact upd_same
  refine ⟨_, rfl, _, _, _, _, _, rfl, s1 _ _ ha, M.tx.clE, M.tx.nE_parts, lkE_parts, (foc L i).y.pts, rfl, ⟨_, SqL.of (s1 _ _ C.pts)⟩, ?_⟩
  refine for_list (K := K) (xs := (foc L i).y.ps.map fun q => V.ref q.1) (fun j σ H' => ∃ f v, σ = [some (.ref (foc L i).a), some (.ref f), v] ∧ H f = none ∧ Same H H' ∧ H' f = some (.lst ((((l.at i).parts.length : Int) :: ((l.at i).parts.take j).flatMap partRow).map V.int)))
    ⟨f, none, rfl, hf, s1, hf1⟩ (fun j σ H' _ ⟨_, _, _, _, s, _⟩ => SqL.of (s _ _ C.pts)) ?_ ?_
  · rintro j x σ H' hx ⟨f, v, rfl, hn, s, hf⟩
    rw [List.getElem?_map] at hx
    obtain ⟨q, hq, rfl⟩ := Option.map_eq_some_iff.mp hx
    obtain ⟨dp, pl, hp, hpl, _⟩ := (C.part q (List.mem_of_getElem? hq)).obj
    have hp' := s _ _ hp
    have hpl' := s _ _ hpl
    have hgi : (l.at i).parts[j]? = some q.2 := by rw [C.ps, List.getElem?_map, hq]; rfl
    have hil : j < (l.at i).parts.length := (List.getElem?_eq_some_iff.mp hgi).1
    refine ⟨_, rfl, _, rfl, _, _, _, _, _, rfl, hp', M.tx.clP, M.tx.nP_position, lkP_position, _, rfl, q.1, dp, _, rfl, hp', rfl, q.1, dp, pl, q.2, rfl, hp', hpl', _, rfl, _, _, _, _, _, rfl, hp', M.tx.clP, M.tx.nP_position, lkP_position, _, _, rfl, rfl, _, rfl, _, _, _, _, _, rfl, hp', M.tx.clP, M.tx.nP_transmissions, lkP_transmissions, _, rfl, _, _, _, _, _, rfl, hp', M.tx.clP, M.tx.nP_marked, lkP_marked, .inr ⟨_, rfl, (by show 4 ≤ sizeLine; omega), fun w hw => ?_⟩⟩
    generalize e2 : upd _ _ _ = H2
    have s2 : Same H' H2 := by rw [← e2]; exact same_upd hw
    have hw2 : H2 w = some (.lst ((partRow q.2).map V.int)) := by rw [← e2]; exact upd_same
    refine ⟨_, _, _, _, rfl, rfl, s2 _ _ hf, hw2, ?_, fun z hz => ?_⟩
    · rw [List.length_map, List.length_cons, fm_len (k := 4) (fun _ => rfl), List.length_take, List.length_map]
      show _ + 4 ≤ _
      omega
    · rw [← List.map_append]
      refine ⟨z, some (.ref q.1), rfl, Same.back (s.trans s2) hz, (s.trans s2).trans (same_upd hz), ?_⟩
      rw [upd_same, fm_take hgi]
      rfl
  · rintro σ H2 ⟨f, v, rfl, hn, s, hf⟩
    rw [List.length_map, lp, List.take_length] at hf
    obtain ⟨R2, N2⟩ := R.sameF s
    exact ⟨_, rfl, A.to2 R2 N2 hf hn⟩
def sp_show_ranges (K : PySem.W.Frag) : Sp := fun vs H Q _ => ∃ T L l i, vs = [.ref (foc L i).a] ∧ RepL K H T L l ∧ AnsQ K H T L (showRanges l i) Q
theorem sc_show_ranges : FnScope ["endpoint", "ranges", "found", "start", "end"] ["endpoint"] (defScope s_show_ranges) := ⟨rfl, rfl, rfl, by decide +kernel, rfl, by decide +kernel, by decide +kernel⟩
theorem ok_show_ranges (D : DefsOk K mg) (M_Endpoint_early_ranges : OkM P w K mg base (He.ga K "Endpoint") "early_ranges" 1 ["self"] (sp_Endpoint_early_ranges K)) : OkF P w K mg base "show_ranges" 2 ["endpoint"] (sp_show_ranges K) := by
  have M := D.m
  refine okF (st := s_show_ranges) (N := ["endpoint", "ranges", "found", "start", "end"]) D.d_show_ranges D.g_show_ranges sc_show_ranges (fun vs H Q E h => ?_) (fun _ _ _ _ _ _ us hl => match us, hl with | [_], _ => rfl) (fun cdv A outer s H vs Q E hr h => ?_)
  · obtain ⟨T, L, l, i, rfl, R, A⟩ := h
    rfl
  obtain ⟨T, L, l, i, rfl, R, A⟩ := h
  refine ⟨_, (pss_cons (ps_set (i := 1) sc_show_ranges.nd rfl (Or.inl rfl) (c_meth0 M_Endpoint_early_ranges (hr.mono (by decide)) (pv 0)))
      (pss_cons (ps_set (i := 2) sc_show_ranges.nd rfl (Or.inl rfl) (pe_lst (pa_cons (pe_callB call_len_seq (by rfl) M.b_len bt_len (pa_cons (pv 1) pa_nil)) pa_nil)))
      (pss_cons (ps_for PassesOwn.never rfl (pi_list (pv 1)) (pg_tup rfl (pgs_cons (pg_name (i := 3) sc_show_ranges.nd rfl (Or.inl rfl)) (pgs_cons (pg_name (i := 4) sc_show_ranges.nd rfl (Or.inl rfl)) pgs_nil))) (pss_one (ps_set (i := 2) sc_show_ranges.nd rfl (Or.inl rfl) (pe_op op_cat (pv 2) (pe_lst (pa_cons (pv 3) (pa_cons (pv 4) pa_nil)))))))
      (pss_one (ps_ret (pv 2)))))), ?_⟩
  obtain ⟨b1, A⟩ := AnsQ.if_ (f := ans l (((l.at i).ranges.length : Int) :: (l.at i).ranges.flatMap fun r => [r.1, r.2])) A
  have h16 : sizeLine = 16777216 := sizeLine_eq
  have Rf := R.fo i
  obtain ⟨da, ha⟩ := Rf.ea.obj
  refine ⟨_, rfl, (foc L i).a, da, _, rfl, ha, rfl, T, foc L i, l.n, l.at i, l.at (!i), rfl, Rf, b1, fun H0 p bs s0 np hp eb hbs => ?_⟩
  have lb : bs.length = (l.at i).ranges.length := by rw [← eb, List.length_map]
  have lr : (l.at i).ranges.length ≤ 10000 := by
    have := rg_len (sortI ((l.at i).early.map (·.1))) []
    have e2 : (sortI ((l.at i).early.map (·.1))).length = (l.at i).early.length := by rw [(sortI_perm _).length_eq, List.length_map]
    show (List.foldl rgStep [] _).length ≤ _
    rw [e2] at this
    have e3 : ([] : List (Int × Int)).length = 0 := rfl
    omega
  refine ⟨_, rfl, p, _, rfl, .inl (SqL.of hp), (by show 1 ≤ sizeLine; omega), fun f hf => ?_⟩
  rw [List.length_map, lb]
  generalize e1 : upd _ _ _ = H1
  have s1 : Same H0 H1 := by rw [← e1]; exact same_upd hf
  have hf1 : H1 f = some (.lst [.int ((l.at i).ranges.length : Int)]) := by rw [← e1]; exact upd_same
  refine ⟨_, rfl, p, rfl, ⟨_, SqL.of (s1 _ _ hp)⟩, ?_⟩
  refine for_list (K := K) (xs := bs.map fun q => V.ref q.1) (fun j σ H' => ∃ f v w, σ = [some (.ref (foc L i).a), some (.ref p), some (.ref f), v, w] ∧ H f = none ∧ Same H0 H' ∧ H' f = some (.lst ((((l.at i).ranges.length : Int) :: ((l.at i).ranges.take j).flatMap fun r => [r.1, r.2]).map V.int)))
    ⟨f, none, none, rfl, Same.back s0 hf, s1, hf1⟩ (fun j σ H' _ ⟨_, _, _, _, _, s, _⟩ => SqL.of (s _ _ hp)) ?_ ?_
  · rintro j x σ H' hx ⟨f, v, w, rfl, hn, s, hf⟩
    rw [List.getElem?_map] at hx
    obtain ⟨q, hq, rfl⟩ := Option.map_eq_some_iff.mp hx
    have hbi : (l.at i).ranges[j]? = some q.2 := by rw [← eb, List.getElem?_map, hq]; rfl
    have hil : j < (l.at i).ranges.length := (List.getElem?_eq_some_iff.mp hbi).1
    have hqt := s _ _ (hbs q (List.mem_of_getElem? hq))
    refine ⟨q.1, _, rfl, SqT.of hqt, rfl, _, _, rfl, _, _, rfl, rfl, ?_⟩
    refine ⟨_, rfl, _, rfl, _, rfl, (by show 2 ≤ sizeLine; omega), fun w hw => ?_⟩
    generalize e2 : upd _ _ _ = H2
    have s2 : Same H' H2 := by rw [← e2]; exact same_upd hw
    have hw2 : H2 w = some (.lst ([q.2.1, q.2.2].map V.int)) := by rw [← e2]; exact upd_same
    refine ⟨_, _, _, _, rfl, rfl, s2 _ _ hf, hw2, ?_, fun z hz => ?_⟩
    · rw [List.length_map, List.length_cons, fm_len (k := 2) (fun _ => rfl), List.length_take, List.length_map]
      show _ + 2 ≤ _
      omega
    · rw [← List.map_append]
      refine ⟨z, _, _, rfl, Same.back (s0.trans (s.trans s2)) hz, (s.trans s2).trans (same_upd hz), ?_⟩
      rw [upd_same, fm_take hbi]
      rfl
  · rintro σ H2 ⟨f, v, w, rfl, hn, s, hf⟩
    rw [List.length_map, lb, List.take_length] at hf
    obtain ⟨R2, N2⟩ := R.sameF (s0.trans s)
    exact ⟨_, rfl, A.to2 R2 N2 hf hn⟩
/-! ### which deed -/
theorem ends_at {L : Lay} {s : Int} (h0 : 0 ≤ s) (h1 : ¬ 1 < s) : atI [V.ref L.a, V.ref L.b] s = some (.ref (foc L (decide (s = 1))).a) := by
  rcases (show s = 0 ∨ s = 1 by omega) with e | e
  · rw [e]; exact at_of (j := 0) rfl rfl
  · rw [e]; exact at_of (j := 1) rfl rfl
theorem nth_at {ns : List Int} {j : Nat} (h : j < ns.length) : atI (ns.map V.int) (j : Int) = some (.int (nth0 ns j)) := by
  refine at_of rfl ?_
  rw [List.getElem?_map, List.getElem?_eq_getElem h]
  show some (V.int ns[j]) = some (V.int (ns.getD j 0))
  rw [List.getD_eq_getElem?_getD, List.getElem?_eq_getElem h]
  rfl
def sp_side_question (K : PySem.W.Frag) : Sp := fun vs H Q _ => ∃ T L l op s, vs = [.ref L.lk, .int op, .int s] ∧ RepL K H T L l ∧ AnsQ K H T L (sideQuestion l op s) Q
theorem sc_side_question : FnScope ["link", "operation", "side", "endpoint"] ["link", "operation", "side"] (defScope s_side_question) := ⟨rfl, rfl, rfl, by decide +kernel, rfl, by decide +kernel, by decide +kernel⟩
theorem ok_side_question (D : DefsOk K mg) (F_congestion : OkF P w K mg base "congestion" 1 ["endpoint"] (sp_congestion K)) (F_list_outstanding : OkF P w K mg base "list_outstanding" 2 ["endpoint"] (sp_list_outstanding K)) (F_show_ranges : OkF P w K mg base "show_ranges" 2 ["endpoint"] (sp_show_ranges K)) (F_status : OkF P w K mg base "status" 2 ["link", "endpoint"] (sp_status K)) (F_totals : OkF P w K mg base "totals" 1 ["endpoint"] (sp_totals K)) : OkF P w K mg base "side_question" 3 ["link", "operation", "side"] (sp_side_question K) := by
  have M := D.m
  refine okF (st := s_side_question) (N := ["link", "operation", "side", "endpoint"]) D.d_side_question D.g_side_question sc_side_question (fun vs H Q E h => ?_) (fun _ _ _ _ _ _ us hl => match us, hl with | [_, _, _], _ => rfl) (fun cdv A outer s H vs Q E hr h => ?_)
  · obtain ⟨T, L, l, op, s, rfl, R, A⟩ := h
    rfl
  obtain ⟨T, L, l, op, s, rfl, R, A⟩ := h
  refine ⟨_, (pss_cons (ps_if (pt_cmp (pc_gt (pv 2) pe_int)) (pss_one (ps_ret (pe_lst (pa_cons (pe_kon M.k_NO_SIDE) pa_nil)))) pss_nil)
      (pss_cons (ps_set (i := 3) sc_side_question.nd rfl (Or.inl rfl) (pe_ix ix_list (pe_fld (pv 0) rfl) (pv 2) (fun _ _ => rfl)))
      (pss_cons (ps_if (pt_cmp (pc_eqI (pv 1) pe_int)) (pss_one (ps_ret (c_call F_status (hr.mono (by decide)) rfl (pa_cons (pv 0) (pa_cons (pv 3) pa_nil))))) pss_nil)
      (pss_cons (ps_if (pt_cmp (pc_eqI (pv 1) pe_int)) (pss_one (ps_ret (c_call F_congestion (hr.mono (by decide)) rfl (pa_cons (pv 3) pa_nil)))) pss_nil)
      (pss_cons (ps_if (pt_cmp (pc_eqI (pv 1) pe_int)) (pss_one (ps_ret (c_call F_list_outstanding (hr.mono (by decide)) rfl (pa_cons (pv 3) pa_nil)))) pss_nil)
      (pss_one (ps_ret (pe_ifExp (pt_cmp (pc_eqI (pv 1) pe_int)) (c_call F_show_ranges (hr.mono (by decide)) rfl (pa_cons (pv 3) pa_nil)) (c_call F_totals (hr.mono (by decide)) rfl (pa_cons (pv 3) pa_nil)))))))))), ?_⟩
  unfold sideQuestion at A
  obtain ⟨dl, hl⟩ := R.2.lk
  refine ⟨_, rfl, _, _, rfl, rfl, _, rfl, ?_⟩
  refine ifD (c := 1 < s) (fun c => ?_) (fun c => ?_)
  · rw [if_pos c] at A
    exact ⟨by show 1 ≤ sizeLine; decide, fun p hp => A.to R (NxL.refl _ _ _) hp⟩
  rw [if_neg c] at A
  by_cases cn : s < 0
  · rw [if_pos cn] at A
    exact A.non.elim
  rw [if_neg cn] at A
  have ix := ends_at (L := L) (s := s) (by omega) c
  generalize decide (s = 1) = i at A ix
  refine ⟨_, rfl, _, _, _, _, _, rfl, hl, M.tx.clL, M.tx.nL_ends, lkL_ends, _, rfl, L.ends, _, s, _, rfl, rfl, SqL.of R.ends, ix, ?_⟩
  refine ⟨_, rfl, _, _, rfl, rfl, _, rfl, ?_⟩
  refine ifD (c := op = 16) (fun c => ?_) (fun c => ?_)
  · rw [if_pos c] at A
    exact ⟨_, rfl, _, rfl, T, L, l, i, rfl, R, A⟩
  rw [if_neg c] at A
  refine ⟨_, rfl, _, _, rfl, rfl, _, rfl, ?_⟩
  refine ifD (c := op = 17) (fun c => ?_) (fun c => ?_)
  · rw [if_pos c] at A
    exact ⟨_, rfl, T, L, l, i, rfl, R, A⟩
  rw [if_neg c] at A
  refine ⟨_, rfl, _, _, rfl, rfl, _, rfl, ?_⟩
  refine ifD (c := op = 18) (fun c => ?_) (fun c => ?_)
  · rw [if_pos c] at A
    exact ⟨_, rfl, T, L, l, i, rfl, R, A⟩
  rw [if_neg c] at A
  refine ⟨_, rfl, _, _, rfl, rfl, _, rfl, ?_⟩
  refine ifD (c := op = 19) (fun c => ?_) (fun c => ?_)
  · rw [if_pos c] at A
    exact ⟨_, rfl, T, L, l, i, rfl, R, A⟩
  · rw [if_neg c] at A
    exact ⟨_, rfl, T, L, l, i, rfl, R, A⟩
def sp_side_change (K : PySem.W.Frag) : Sp := fun vs H Q _ => ∃ T L l op p q, ∃ ns us : List Int, vs = [.ref L.lk, .int op, .ref p, .ref q] ∧ RepL K H T L l ∧ H p = some (.lst (ns.map V.int)) ∧ H q = some (.lst (us.map V.int)) ∧ 0 < ns.length ∧ (op = 3 → 1 < ns.length) ∧ AnsQ K H T L (sideChange l op ns us) Q
theorem sc_side_change : FnScope ["link", "operation", "numbers", "some", "endpoint"] ["link", "operation", "numbers", "some"] (defScope s_side_change) := ⟨rfl, rfl, rfl, by decide +kernel, rfl, by decide +kernel, by decide +kernel⟩
theorem ok_side_change (D : DefsOk K mg) (F_abort : OkF P w K mg base "abort" 4 ["link", "endpoint"] (sp_abort K)) (F_close : OkF P w K mg base "close" 8 ["link", "endpoint"] (sp_close K)) (F_read : OkF P w K mg base "read" 5 ["link", "endpoint", "many"] (sp_read K)) (F_write : OkF P w K mg base "write" 8 ["link", "endpoint", "some"] (sp_write K)) : OkF P w K mg base "side_change" 9 ["link", "operation", "numbers", "some"] (sp_side_change K) := by
  have M := D.m
  refine okF (st := s_side_change) (N := ["link", "operation", "numbers", "some", "endpoint"]) D.d_side_change D.g_side_change sc_side_change (fun vs H Q E h => ?_) (fun _ _ _ _ _ _ us hl => match us, hl with | [_, _, _, _], _ => rfl) (fun cdv A outer s H vs Q E hr h => ?_)
  · obtain ⟨T, L, l, op, p, q, ns, us, rfl, R, hp, hq, n0, n1, A⟩ := h
    rfl
  obtain ⟨T, L, l, op, p, q, ns, us, rfl, R, hp, hq, n0, n1, A⟩ := h
  refine ⟨_, (pss_cons (ps_if (pt_cmp (pc_gt (pe_ix ix_list (pv 2) pe_int (fun _ _ => rfl)) pe_int)) (pss_one (ps_ret (pe_lst (pa_cons (pe_kon M.k_NO_SIDE) pa_nil)))) pss_nil)
      (pss_cons (ps_set (i := 4) sc_side_change.nd rfl (Or.inl rfl) (pe_ix ix_list (pe_fld (pv 0) rfl) (pe_ix ix_list (pv 2) pe_int (fun _ _ => rfl)) (fun _ _ => rfl)))
      (pss_cons (ps_if (pt_cmp (pc_eqI (pv 1) (pe_kon M.k_WRITE))) (pss_one (ps_ret (c_call F_write (hr.mono (by decide)) rfl (pa_cons (pv 0) (pa_cons (pv 4) (pa_cons (pv 3) pa_nil)))))) pss_nil)
      (pss_cons (ps_if (pt_cmp (pc_eqI (pv 1) pe_int)) (pss_one (ps_ret (c_call F_read (hr.mono (by decide)) rfl (pa_cons (pv 0) (pa_cons (pv 4) (pa_cons (pe_ix ix_list (pv 2) pe_int (fun _ _ => rfl)) pa_nil)))))) pss_nil)
      (pss_one (ps_ret (pe_ifExp (pt_cmp (pc_eqI (pv 1) pe_int)) (c_call F_close (hr.mono (by decide)) rfl (pa_cons (pv 0) (pa_cons (pv 4) pa_nil))) (c_call F_abort (hr.mono (by decide)) rfl (pa_cons (pv 0) (pa_cons (pv 4) pa_nil)))))))))), ?_⟩
  unfold sideChange at A
  obtain ⟨dl, hl⟩ := R.2.lk
  have a0 := nth_at n0
  refine ⟨_, rfl, p, _, 0, _, rfl, rfl, SqL.of hp, a0, _, _, rfl, rfl, _, rfl, ?_⟩
  refine ifD (c := 1 < nth0 ns 0) (fun c => ?_) (fun c => ?_)
  · rw [if_pos c] at A
    exact ⟨by show 1 ≤ sizeLine; decide, fun p hp => A.to R (NxL.refl _ _ _) hp⟩
  rw [if_neg c] at A
  by_cases cn : nth0 ns 0 < 0
  · rw [if_pos cn] at A
    exact A.non.elim
  rw [if_neg cn] at A
  have ix := ends_at (L := L) (s := nth0 ns 0) (by omega) c
  generalize decide (nth0 ns 0 = 1) = i at A ix
  refine ⟨_, rfl, _, _, _, _, _, rfl, hl, M.tx.clL, M.tx.nL_ends, lkL_ends, _, rfl, p, _, 0, _, rfl, rfl, SqL.of hp, a0, L.ends, _, _, _, rfl, rfl, SqL.of R.ends, ix, ?_⟩
  refine ⟨_, rfl, _, _, rfl, rfl, _, rfl, ?_⟩
  refine ifD (c := op = 2) (fun c => ?_) (fun c => ?_)
  · rw [if_pos c] at A
    exact ⟨_, rfl, _, rfl, _, rfl, T, L, l, i, q, us, rfl, R, hq, A⟩
  rw [if_neg c] at A
  refine ⟨_, rfl, _, _, rfl, rfl, _, rfl, ?_⟩
  refine ifD (c := op = 3) (fun c => ?_) (fun c => ?_)
  · rw [if_pos c] at A
    exact ⟨_, rfl, _, rfl, _, rfl, p, _, 1, _, rfl, rfl, SqL.of hp, nth_at (n1 c), T, L, l, i, nth0 ns 1, rfl, R, A⟩
  rw [if_neg c] at A
  refine ⟨_, rfl, _, _, rfl, rfl, _, rfl, ?_⟩
  refine ifD (c := op = 4) (fun c => ?_) (fun c => ?_)
  · rw [if_pos c] at A
    exact ⟨_, rfl, _, rfl, T, L, l, i, rfl, R, A⟩
  · rw [if_neg c] at A
    exact ⟨_, rfl, _, rfl, T, L, l, i, rfl, R, A⟩
def sp_clock_deed (K : PySem.W.Frag) : Sp := fun vs H Q _ => ∃ T L l op p q, ∃ ns us : List Int, vs = [.ref L.lk, .int op, .ref p, .ref q] ∧ RepL K H T L l ∧ H p = some (.lst (ns.map V.int)) ∧ H q = some (.lst (us.map V.int)) ∧ T q = .frz ∧ (op = 12 → 0 < ns.length) ∧ AnsQ K H T L (clockDeed l op ns us) Q
theorem sc_clock_deed : FnScope ["link", "operation", "numbers", "some"] ["link", "operation", "numbers", "some"] (defScope s_clock_deed) := ⟨rfl, rfl, rfl, by decide +kernel, rfl, by decide +kernel, by decide +kernel⟩
theorem ok_clock_deed (D : DefsOk K mg) (F_advance : OkF P w K mg base "advance" 9 ["link", "duration"] (sp_advance K)) (F_fire_timer : OkF P w K mg base "fire_timer" 9 ["link"] (sp_fire_timer K)) (F_next_timer : OkF P w K mg base "next_timer" 2 ["link"] (sp_next_timer K)) (F_run : OkF P w K mg base "run" 13 ["link", "fates"] (sp_run K)) : OkF P w K mg base "clock_deed" 14 ["link", "operation", "numbers", "some"] (sp_clock_deed K) := by
  have M := D.m
  refine okF (st := s_clock_deed) (N := ["link", "operation", "numbers", "some"]) D.d_clock_deed D.g_clock_deed sc_clock_deed (fun vs H Q E h => ?_) (fun _ _ _ _ _ _ us hl => match us, hl with | [_, _, _, _], _ => rfl) (fun cdv A outer s H vs Q E hr h => ?_)
  · obtain ⟨T, L, l, op, p, q, ns, us, rfl, R, hp, hq, tq, n0, A⟩ := h
    rfl
  obtain ⟨T, L, l, op, p, q, ns, us, rfl, R, hp, hq, tq, n0, A⟩ := h
  refine ⟨_, (pss_cons (ps_if (pt_cmp (pc_eqI (pv 1) pe_int)) (pss_one (ps_ret (c_call F_advance (hr.mono (by decide)) rfl (pa_cons (pv 0) (pa_cons (pe_ix ix_list (pv 2) pe_int (fun _ _ => rfl)) pa_nil))))) pss_nil)
      (pss_cons (ps_if (pt_cmp (pc_eqI (pv 1) pe_int)) (pss_one (ps_ret (c_call F_next_timer (hr.mono (by decide)) rfl (pa_cons (pv 0) pa_nil)))) pss_nil)
      (pss_one (ps_ret (pe_ifExp (pt_cmp (pc_eqI (pv 1) pe_int)) (c_call F_fire_timer (hr.mono (by decide)) rfl (pa_cons (pv 0) pa_nil)) (c_call F_run (hr.mono (by decide)) rfl (pa_cons (pv 0) (pa_cons (pv 3) pa_nil)))))))), ?_⟩
  unfold clockDeed at A
  refine ⟨_, rfl, _, _, rfl, rfl, _, rfl, ?_⟩
  refine ifD (c := op = 12) (fun c => ?_) (fun c => ?_)
  · rw [if_pos c] at A
    exact ⟨_, rfl, _, rfl, p, _, 0, _, rfl, rfl, SqL.of hp, nth_at (n0 c), T, L, l, _, rfl, R, A⟩
  rw [if_neg c] at A
  refine ⟨_, rfl, _, _, rfl, rfl, _, rfl, ?_⟩
  refine ifD (c := op = 13) (fun c => ?_) (fun c => ?_)
  · rw [if_pos c] at A
    exact ⟨_, rfl, T, L, l, rfl, R, A⟩
  rw [if_neg c] at A
  refine ⟨_, rfl, _, _, rfl, rfl, _, rfl, ?_⟩
  refine ifD (c := op = 14) (fun c => ?_) (fun c => ?_)
  · rw [if_pos c] at A
    exact ⟨_, rfl, T, L, l, rfl, R, A⟩
  · rw [if_neg c] at A
    exact ⟨_, rfl, _, rfl, T, L, l, q, us, rfl, R, hq, tq, A⟩
/-- how many numbers a deed reads -/
def enough (op : Int) (ns : List Int) : Prop := ((op ∈ [2, 4, 5, 7, 8, 9, 10, 11, 12, 16, 17, 18, 19, 20]) → 0 < ns.length) ∧ (op = 3 → 1 < ns.length)
def sp_deed (K : PySem.W.Frag) : Sp := fun vs H Q _ => ∃ T L l op p q, ∃ ns us : List Int, vs = [.ref L.lk, .int op, .ref p, .ref q] ∧ RepL K H T L l ∧ H p = some (.lst (ns.map V.int)) ∧ H q = some (.lst (us.map V.int)) ∧ T q = .frz ∧ 1 ≤ op ∧ op ≤ 21 ∧ enough op ns ∧ AnsQ K H T L (deed l op ns us) Q
theorem sc_deed : FnScope ["link", "operation", "numbers", "some"] ["link", "operation", "numbers", "some"] (defScope s_deed) := ⟨rfl, rfl, rfl, by decide +kernel, rfl, by decide +kernel, by decide +kernel⟩
theorem ok_deed (D : DefsOk K mg) (F_clock_deed : OkF P w K mg base "clock_deed" 14 ["link", "operation", "numbers", "some"] (sp_clock_deed K)) (F_connect : OkF P w K mg base "connect" 6 ["link"] (sp_connect K)) (F_list_segments : OkF P w K mg base "list_segments" 1 ["link"] (sp_list_segments K)) (F_segment_deed : OkF P w K mg base "segment_deed" 12 ["link", "operation", "index"] (sp_segment_deed K)) (F_side_change : OkF P w K mg base "side_change" 9 ["link", "operation", "numbers", "some"] (sp_side_change K)) (F_side_question : OkF P w K mg base "side_question" 3 ["link", "operation", "side"] (sp_side_question K)) (F_statistics : OkF P w K mg base "statistics" 1 ["link"] (sp_statistics K)) : OkF P w K mg base "deed" 15 ["link", "operation", "numbers", "some"] (sp_deed K) := by
  have M := D.m
  refine okF (st := s_deed) (N := ["link", "operation", "numbers", "some"]) D.d_deed D.g_deed sc_deed (fun vs H Q E h => ?_) (fun _ _ _ _ _ _ us hl => match us, hl with | [_, _, _, _], _ => rfl) (fun cdv A outer s H vs Q E hr h => ?_)
  · obtain ⟨T, L, l, op, p, q, ns, us, rfl, R, hp, hq, tq, o1, o2, ⟨g1, g2⟩, A⟩ := h
    rfl
  obtain ⟨T, L, l, op, p, q, ns, us, rfl, R, hp, hq, tq, o1, o2, ⟨g1, g2⟩, A⟩ := h
  refine ⟨_, (pss_cons (ps_if (pt_cmp (pc_eqI (pv 1) pe_int)) (pss_one (ps_ret (c_call F_connect (hr.mono (by decide)) rfl (pa_cons (pv 0) pa_nil)))) pss_nil)
      (pss_cons (ps_if (pt_chain op_le op_le pe_int (pv 1) pe_int) (pss_one (ps_ret (c_call F_side_change (hr.mono (by decide)) rfl (pa_cons (pv 0) (pa_cons (pv 1) (pa_cons (pv 2) (pa_cons (pv 3) pa_nil))))))) pss_nil)
      (pss_cons (ps_if (pt_cmp (pc_eqI (pv 1) pe_int)) (pss_one (ps_ret (c_call F_list_segments (hr.mono (by decide)) rfl (pa_cons (pv 0) pa_nil)))) pss_nil)
      (pss_cons (ps_if (pt_chain op_le op_le pe_int (pv 1) pe_int) (pss_one (ps_ret (c_call F_segment_deed (hr.mono (by decide)) rfl (pa_cons (pv 0) (pa_cons (pv 1) (pa_cons (pe_ix ix_list (pv 2) pe_int (fun _ _ => rfl)) pa_nil)))))) pss_nil)
      (pss_cons (ps_if (pt_chain op_le op_le pe_int (pv 1) pe_int) (pss_one (ps_ret (c_call F_clock_deed (hr.mono (by decide)) rfl (pa_cons (pv 0) (pa_cons (pv 1) (pa_cons (pv 2) (pa_cons (pv 3) pa_nil))))))) pss_nil)
      (pss_one (ps_ret (pe_ifExp (pt_cmp (pc_eqI (pv 1) pe_int)) (c_call F_statistics (hr.mono (by decide)) rfl (pa_cons (pv 0) pa_nil)) (c_call F_side_question (hr.mono (by decide)) rfl (pa_cons (pv 0) (pa_cons (pv 1) (pa_cons (pe_ix ix_list (pv 2) pe_int (fun _ _ => rfl)) pa_nil)))))))))))), ?_⟩
  unfold deed at A
  refine ⟨_, rfl, _, _, rfl, rfl, _, rfl, ?_⟩
  refine ifD (c := op = 1) (fun c => ?_) (fun c => ?_)
  · rw [if_pos c] at A
    exact ⟨_, rfl, T, L, l, rfl, R, A⟩
  rw [if_neg c] at A
  have r1 : 2 ≤ op := by omega
  -- 2 to 5
  refine ⟨_, rfl, _, _, rfl, rfl, _, rfl, ?_⟩
  rw [decide_eq_true r1]
  refine iteT ⟨_, _, rfl, rfl, _, rfl, ?_⟩
  refine ifD (c := op ≤ 5) (fun c2 => ?_) (fun c2 => ?_)
  · rw [if_pos ⟨r1, c2⟩] at A
    refine ⟨_, rfl, _, rfl, _, rfl, _, rfl, T, L, l, op, p, q, ns, us, rfl, R, hp, hq, ?_, g2, A⟩
    by_cases h3 : op = 3
    · exact Nat.lt_of_succ_lt (g2 h3)
    · refine g1 ?_
      rcases (show op = 2 ∨ op = 4 ∨ op = 5 by omega) with e | e | e <;> rw [e] <;> decide
  rw [if_neg (fun z => c2 z.2)] at A
  refine ⟨_, rfl, _, _, rfl, rfl, _, rfl, ?_⟩
  refine ifD (c := op = 6) (fun c => ?_) (fun c => ?_)
  · rw [if_pos c] at A
    exact ⟨_, rfl, T, L, l, rfl, R, A⟩
  rw [if_neg c] at A
  have r2 : 7 ≤ op := by omega
  refine ⟨_, rfl, _, _, rfl, rfl, _, rfl, ?_⟩
  rw [decide_eq_true r2]
  refine iteT ⟨_, _, rfl, rfl, _, rfl, ?_⟩
  refine ifD (c := op ≤ 11) (fun c2 => ?_) (fun c2 => ?_)
  · rw [if_pos ⟨r2, c2⟩] at A
    refine ⟨_, rfl, _, rfl, _, rfl, p, _, 0, _, rfl, rfl, SqL.of hp, nth_at (g1 ?_), T, L, l, op, _, rfl, R, A⟩
    rcases (show op = 7 ∨ op = 8 ∨ op = 9 ∨ op = 10 ∨ op = 11 by omega) with e | e | e | e | e <;> rw [e] <;> decide
  rw [if_neg (fun z => c2 z.2)] at A
  have r3 : 12 ≤ op := by omega
  refine ⟨_, rfl, _, _, rfl, rfl, _, rfl, ?_⟩
  rw [decide_eq_true r3]
  refine iteT ⟨_, _, rfl, rfl, _, rfl, ?_⟩
  refine ifD (c := op ≤ 15) (fun c2 => ?_) (fun c2 => ?_)
  · rw [if_pos ⟨r3, c2⟩] at A
    exact ⟨_, rfl, _, rfl, _, rfl, _, rfl, T, L, l, op, p, q, ns, us, rfl, R, hp, hq, tq, fun e => g1 (by rw [e]; decide), A⟩
  rw [if_neg (fun z => c2 z.2)] at A
  refine ⟨_, rfl, _, _, rfl, rfl, _, rfl, ?_⟩
  refine ifD (c := op = 21) (fun c => ?_) (fun c => ?_)
  · rw [if_pos c] at A
    exact ⟨_, rfl, T, L, l, rfl, R, A⟩
  · rw [if_neg c] at A
    refine ⟨_, rfl, _, rfl, _, rfl, p, _, 0, _, rfl, rfl, SqL.of hp, nth_at (g1 ?_), T, L, l, op, _, rfl, R, A⟩
    rcases (show op = 16 ∨ op = 17 ∨ op = 18 ∨ op = 19 ∨ op = 20 by omega) with e | e | e | e | e <;> rw [e] <;> decide
end
end Ws
set_option Elab.async false
set_option linter.all false
set_option maxRecDepth 100000
set_option maxHeartbeats 4000000
namespace Ws
open PySem PySem.Spec PyProof.Rows L2 Wt

section
variable {P : Program} {w : World} {K : PySem.W.Frag} {mg : Str → Option Value} {base : Heap}
/-- how many numbers a call has -/
def cn (op : Int) : Nat := (cnts.getD op.toNat 0).toNat
/-- a call's row and what is behind it -/
def someM (op : Int) (r1 : List Int) : Option (List Int × List Int) :=
  if op = 2 ∨ op = 15 then (match r1 with
    | [] => none
    | k :: r2 => if 0 ≤ k then some (r2.take k.toNat, r2.drop k.toNat) else none) else some ([], r1)
/-- the calls, one by one; f: a bound of the turns -/
def ansM : Nat → Option MLink → List Int → Option (List Int)
  | _, _, [] => some []
  | 0, _, _ :: _ => none
  | f + 1, st, op :: tl =>
    if 0 ≤ op ∧ op ≤ 21 ∧ cn op ≤ tl.length then
      (someM op (tl.drop (cn op))).bind fun s => (callM st op (tl.take (cn op)) s.1).bind fun x => (ansM f x.1 s.2).bind fun y => some (((x.2.length : Int) :: x.2) ++ y)
    else none
theorem cn_at {op : Int} (h0 : 0 ≤ op) (h1 : op ≤ 21) : atI (cnts.map V.int) op = some (.int (cn op : Int)) := by
  obtain ⟨o, rfl⟩ := Int.eq_ofNat_of_zero_le h0
  have h : ∀ o : Fin 22, cnts[o.1]? = some (((cnts.getD o.1 0).toNat : Nat) : Int) := by decide
  have := h ⟨o, by omega⟩
  refine at_of rfl ?_
  rw [List.getElem?_map, this]
  rfl
theorem cut_mid {α : Type} {f : α → V} (xs : List α) {a b : Nat} (h : a ≤ b) : cutV (xs.map f) (some (a : Int)) (some (b : Int)) = ((xs.drop a).take (b - a)).map f := by
  unfold cutV
  rw [HT.sIx_nat, HT.sIx_nat, ← List.map_drop, ← List.map_take, List.length_map]
  congr 1
  rcases Nat.le_total a xs.length with q | q
  · rw [Nat.min_eq_left q]
    rcases Nat.le_total b xs.length with q2 | q2
    · rw [Nat.min_eq_left q2]
    · rw [Nat.min_eq_right q2, List.take_of_length_le (by rw [List.length_drop]; omega), List.take_of_length_le (by rw [List.length_drop]; omega)]
  · rw [Nat.min_eq_right q, List.drop_of_length_le q, List.drop_of_length_le (Nat.le_refl _), List.take_nil, List.take_nil]
theorem Rep.kp {K : PySem.W.Frag} {H H' : Hp} {T T' : Tm} {L : Lay} {n : MNet} {e o : MEnd} (R : Rep K H T L n e o) (k : Kp (fun t => t ≠ .loc) H T H' T') : Rep K H' T' L n e o := by
  obtain ⟨dl, hl⟩ := R.lk
  obtain ⟨ds, hs⟩ := R.st
  have k1 := k _ _ hl (by rw [R.tL]; simp)
  have k2 := k _ _ hs (by rw [R.tS]; simp)
  have k3 := k _ _ R.ini (by rw [R.tI]; simp)
  have k4 := k _ _ R.ends (by rw [R.tN]; simp)
  have k5 := k _ _ R.sg (by rw [R.tG]; simp)
  exact ⟨R.tx, ⟨dl, k1.1⟩, ⟨ds, k2.1⟩, k3.1, k4.1, k5.1, R.ss, fun q m => (R.sa q m).kp k (by simp), R.ea.kp k (by simp) (by simp) (by simp) (by simp) (by simp) (by simp), R.eb.kp k (by simp) (by simp) (by simp) (by simp) (by simp) (by simp),
    k1.2.trans R.tL, k2.2.trans R.tS, k3.2.trans R.tI, k4.2.trans R.tN, k5.2.trans R.tG⟩
/-- the variable link -/
def StQ (K : PySem.W.Frag) (H : Hp) (T : Tm) (lkv : V) : Option MLink → Prop
  | none => lkv = .non
  | some l => ∃ L, lkv = .ref L.lk ∧ RepL K H T L l
theorem StQ.ka {K : PySem.W.Frag} {H H' : Hp} {T T' : Tm} {v : V} {st : Option MLink} (S : StQ K H T v st) (a : KA H T H' T') : StQ K H' T' v st := by
  cases st with
  | none => exact S
  | some l =>
    obtain ⟨L, e, R⟩ := S
    exact ⟨L, e, R.1, R.2.kp a.kp⟩
theorem StQ.loc {K : PySem.W.Frag} {H : Hp} {T : Tm} {v : V} {st : Option MLink} {f : Addr} {u : HO} (S : StQ K H T v st) (t : T f = .loc) : StQ K (upd H f u) T v st := by
  cases st with
  | none => exact S
  | some l =>
    obtain ⟨L, e, R⟩ := S
    exact ⟨L, e, R.1, R.2.kp (kp_upd (by rw [t]; simp))⟩
theorem KA.new {H H' : Hp} {T : Tm} {q : Addr} {v : HO} (g : Tg) (n : H q = none) (e : upd H q v = H') : KA H T H' (rtg H T q g) ∧ H' q = some v ∧ rtg H T q g q = g := by
  subst e
  exact ⟨fun b u h => ⟨same_upd n _ _ h, rtg_old n h⟩, upd_same, rtg_at⟩
/-- the list handed in: it is read, and it stands -/
def ArgQ (K : PySem.W.Frag) (H : Hp) (T : Tm) (p : Addr) (xs : List V) : Prop := (∃ o, H p = some o ∧ T p = .frz ∧ ∀ H' : Hp, H' p = some o → SqL K H' p xs) ∨ ∀ H', SqL K H' p xs
theorem ArgQ.of {K : PySem.W.Frag} {H : Hp} {p : Addr} {xs : List V} (h : SqL K H p xs) : ArgQ K H (fun _ => .frz) p xs := by
  rcases h with h | h
  · rcases h with h | ⟨ob, h⟩
    · exact .inl ⟨_, h, rfl, fun H' e => .inl (.inl e)⟩
    · exact .inl ⟨_, h, rfl, fun H' e => .inl (.inr ⟨ob, e⟩)⟩
  · exact .inr fun H' => .inr h
theorem ArgQ.sq {K : PySem.W.Frag} {H : Hp} {T : Tm} {p : Addr} {xs : List V} (h : ArgQ K H T p xs) : SqL K H p xs := by
  rcases h with ⟨o, h1, _, h2⟩ | h
  · exact h2 H h1
  · exact h H
theorem ArgQ.ka {K : PySem.W.Frag} {H H' : Hp} {T T' : Tm} {p : Addr} {xs : List V} (h : ArgQ K H T p xs) (a : KA H T H' T') : ArgQ K H' T' p xs := by
  rcases h with ⟨o, h1, t, h2⟩ | h
  · obtain ⟨e1, e2⟩ := a _ _ h1
    exact .inl ⟨o, e1, e2.trans t, h2⟩
  · exact .inr h
theorem ArgQ.fr {K : PySem.W.Frag} {H H' : Hp} {T T' : Tm} {p : Addr} {xs : List V} (h : ArgQ K H T p xs) (f : Fr H T H' T') : ArgQ K H' T' p xs := by
  rcases h with ⟨o, h1, t, h2⟩ | h
  · obtain ⟨e1, _, e2⟩ := f _ _ h1
    exact .inl ⟨o, e2 (.inl t), e1.trans t, h2⟩
  · exact .inr h
theorem ArgQ.loc {K : PySem.W.Frag} {H : Hp} {T : Tm} {p f : Addr} {u : HO} {xs : List V} (h : ArgQ K H T p xs) (tf : T f = .loc) : ArgQ K (upd H f u) T p xs := by
  rcases h with ⟨o, h1, t, h2⟩ | h
  · have n : p ≠ f := fun z => by rw [z, tf] at t; cases t
    exact .inl ⟨o, by rw [upd_ne n]; exact h1, t, h2⟩
  · exact .inr h
theorem enough_cn {op : Int} {ns : List Int} (h0 : 1 ≤ op) (h1 : op ≤ 21) (h : ns.length = cn op) : enough op ns := by
  obtain ⟨o, rfl⟩ := Int.eq_ofNat_of_zero_le (show 0 ≤ op by omega)
  have d1 : ∀ o : Fin 22, ((o.1 : Int) ∈ ([2, 4, 5, 7, 8, 9, 10, 11, 12, 16, 17, 18, 19, 20] : List Int)) → 0 < cn (o.1 : Int) := by decide
  have d2 : ∀ o : Fin 22, (o.1 : Int) = 3 → 1 < cn (o.1 : Int) := by decide
  exact ⟨fun m => by rw [h]; exact d1 ⟨o, by omega⟩ m, fun m => by rw [h]; exact d2 ⟨o, by omega⟩ m⟩
theorem six {ns : List Int} (h : ns.length = 6) : ∃ a b c d e f, ns = [a, b, c, d, e, f] := by
  match ns, h with
  | [a, b, c, d, e, f], _ => exact ⟨a, b, c, d, e, f, rfl⟩
theorem okFd {x : Str} {st : Stmt} {N ps : List Str} {k : Nat} {sp : Sp} {fd : FuncData} (F : FunD K x x (defArgs st) (defBody st) (defScope st) [] [] (He.ga K x) fd) (S : FnScope N ps (defScope st)) (len : ∀ vs H Q E, sp vs H Q E → vs.length = ps.length)
    (hbody : ∀ (cdv : Value) (A : Around) (outer : List Env) (s : Shared) (H : Hp) (vs : List V) (Q : VK) (E : XK), Room k (A.deeper (envOfC x (defScope st) s.heap.objs.size (He.ga K x) cdv)) → sp vs H Q E →
      ∃ t, PSs (cxOf CX0 P w K mg base N x (defScope st) (He.ga K x) cdv A outer s H E).nox (defBody st) t ∧ t { nx := fun _ H' => Q .non H', rt := Q } (start N vs) H) : FnOk P w K mg base CX0 (k + 1) (He.ga K x) fd ps sp :=
  F.ok S len fun cdv A outer s H vs Q E hr hsp => let ⟨t, h, q⟩ := hbody cdv A outer s H vs Q E hr hsp; ⟨t, h.nox, q⟩
def sp_answers (K : PySem.W.Frag) : Sp := fun vs H Q _ => ∃ p, ∃ calls r : List Int, vs = [.ref p] ∧ Tabs K ∧ SqL K H p (calls.map V.int) ∧ r.length ≤ 10000000 ∧ ansM calls.length none calls = some r ∧
  ∀ H' q, H' q = some (.lst (r.map V.int)) → Q (.ref q) H'
theorem sc_answers : FnScope ["calls", "link", "found", "at", "operation", "numbers", "some", "made", "answer"] ["calls"] (defScope s_answers) := ⟨rfl, rfl, rfl, by decide +kernel, rfl, by decide +kernel, by decide +kernel⟩
theorem ok_answers (D : DefsOk K mg) (F_deed : OkF P w K mg base "deed" 15 ["link", "operation", "numbers", "some"] (sp_deed K)) (F_made_link : OkF P w K mg base "made_link" 5 ["numbers"] (sp_made_link K)) {fd : FuncData} (F : FunD K "answers" "answers" (defArgs s_answers) (defBody s_answers) (defScope s_answers) [] [] (He.ga K "answers") fd) : FnOk P w K mg base CX0 16 (He.ga K "answers") fd ["calls"] (sp_answers K) := by
  have M := D.m
  refine okFd (st := s_answers) (N := ["calls", "link", "found", "at", "operation", "numbers", "some", "made", "answer"]) F sc_answers (fun vs H Q E h => ?_) (fun cdv A outer s H vs Q E hr h => ?_)
  · obtain ⟨p, calls, r, rfl, TB, hp, lr, ht, hQ⟩ := h
    rfl
  obtain ⟨p, calls, r, rfl, TB, hp, lr, ht, hQ⟩ := h
  refine ⟨_, (pss_cons (ps_set (i := 1) sc_answers.nd rfl (Or.inl rfl) pe_non)
      (pss_cons (ps_set (i := 2) sc_answers.nd rfl (Or.inl rfl) (pe_lst pa_nil))
      (pss_cons (ps_set (i := 3) sc_answers.nd rfl (Or.inl rfl) pe_int)
      (pss_cons (ps_while PassesOwn.never (pt_cmp (pc_lt (pv 3) (pe_callB call_len_seq (by rfl) M.b_len bt_len (pa_cons (pv 0) pa_nil)))) (pss_cons (ps_set (i := 4) sc_answers.nd rfl (Or.inl rfl) (pe_ix ix_list (pv 0) (pv 3) (fun _ _ => rfl)))
      (pss_cons (ps_set (i := 5) sc_answers.nd rfl (Or.inl rfl) (pe_slice sl_list (pv 0) (po_some (pe_op op_add (pv 3) pe_int)) (po_some (pe_op op_add (pe_op op_add (pv 3) pe_int) (pe_ix ix_tup (pe_gref M.t_COUNTS) (pv 4) (fun _ _ => rfl))))))
      (pss_cons (ps_aug (i := 3) sc_answers.nd rfl (Or.inl rfl) (pe_op op_add pe_int (pe_ix ix_tup (pe_gref M.t_COUNTS) (pv 4) (fun _ _ => rfl))) ip_add)
      (pss_cons (ps_set (i := 6) sc_answers.nd rfl (Or.inl rfl) (pe_lst pa_nil))
      (Evl.pss_cut (ps_if (pt_cmpR op_in_seq (pv 4) (pe_tup (pa_cons (pe_kon M.k_WRITE) (pa_cons (pe_kon M.k_RUN) pa_nil))) (by with_unfolding_all rfl)) (pss_cons (ps_set (i := 6) sc_answers.nd rfl (Or.inl rfl) (pe_slice sl_list (pv 0) (po_some (pe_op op_add (pv 3) pe_int)) (po_some (pe_op op_add (pe_op op_add (pv 3) pe_int) (pe_ix ix_list (pv 0) (pv 3) (fun _ _ => rfl))))))
      (pss_one (ps_aug (i := 3) sc_answers.nd rfl (Or.inl rfl) (pe_op op_add pe_int (pe_ix ix_list (pv 0) (pv 3) (fun _ _ => rfl))) ip_add))) pss_nil)
      (Evl.pss_cut (ps_if (pt_cmp (pc_eqI (pv 4) (pe_kon M.k_CREATE))) (pss_cons (ps_set (i := 7) sc_answers.nd rfl (Or.inl rfl) (c_call F_made_link (hr.mono (by decide)) rfl (pa_cons (pv 5) pa_nil)))
      (pss_cons (ps_set (i := 8) sc_answers.nd rfl (Or.inl rfl) (pe_ifExp (pt_isN (pv 7)) (pe_lst (pa_cons (pe_kon M.k_BEYOND) pa_nil)) (pe_lst (pa_cons pe_int pa_nil))))
      (pss_one (ps_set (i := 1) sc_answers.nd rfl (Or.inl rfl) (pe_ifExp (pt_isN (pv 7)) (pv 1) (pv 7)))))) (pss_one (ps_set (i := 8) sc_answers.nd rfl (Or.inl rfl) (pe_ifExp (pt_isN (pv 1)) (pe_lst (pa_cons (pe_kon M.k_NO_LINK) pa_nil)) (c_call F_deed (hr.mono (by decide)) rfl (pa_cons (pv 1) (pa_cons (pv 4) (pa_cons (pv 5) (pa_cons (pv 6) pa_nil)))))))))
      (pss_cons (ps_expr (pe_bm PySem.F.plainAttrs_list PySem.F.slot_list_append PySem.F.type_list_append mt_append (pv 2) (pa_cons (pe_callB call_len_seq (by rfl) M.b_len bt_len (pa_cons (pv 8) pa_nil)) pa_nil)))
      (pss_one (ps_expr (pe_bm PySem.F.plainAttrs_list PySem.F.slot_list_extend PySem.F.type_list_extend mt_extend (pv 2) (pa_cons (pv 8) pa_nil))))))))))))
      (pss_one (ps_ret (pv 2))))))), ?_⟩
  have h16 : sizeLine = 16777216 := sizeLine_eq
  refine ⟨by show 0 ≤ sizeLine; omega, fun f hf => ?_⟩
  generalize e1 : upd _ _ _ = H1
  obtain ⟨A1, hf1, tf1⟩ := KA.new (T := fun _ => .frz) .loc hf e1
  have P1 := (ArgQ.of hp).ka A1
  generalize rtg H (fun _ => .frz) f .loc = T1 at *
  refine ⟨fun k σ H' => ∃ (j : Nat) (st : Option MLink) (T' : Tm) (lkv : V) (done rest : List Int) (v4 v5 v6 v7 v8 : Option V), σ = [some (.ref p), some lkv, some (.ref f), some (.int (j : Int)), v4, v5, v6, v7, v8] ∧ StQ K H' T' lkv st ∧ ArgQ K H' T' p (calls.map V.int) ∧
    H' f = some (.lst (done.map V.int)) ∧ T' f = .loc ∧ ansM k st (calls.drop j) = some rest ∧ r = done ++ rest, ⟨calls.length, 0, none, T1, .non, [], r, none, none, none, none, none, rfl, rfl, P1, hf1, tf1, ht, rfl⟩, ?_⟩
  rintro k σ H2 ⟨j, st, T2, lkv, done, rest, v4, v5, v6, v7, v8, rfl, S2, P2, hf2, tf2, h2, er⟩
  refine ⟨_, rfl, _, rfl, p, _, rfl, .inl (P2.sq), _, _, rfl, rfl, _, rfl, ?_⟩
  rw [List.length_map]
  refine ifD (c := (j : Int) < (calls.length : Int)) (fun c => ?_) (fun c => ?_)
  case refine_2 =>
    rw [List.drop_of_length_le (by omega)] at h2
    have e0 : rest = [] := by
      cases k <;> (unfold ansM at h2; exact (Option.some.inj h2).symm)
    rw [e0, List.append_nil] at er
    rw [← er] at hf2
    exact ⟨_, rfl, hQ H2 f hf2⟩
  have hj : j < calls.length := by omega
  have hop : calls[j]? = some calls[j] := List.getElem?_eq_getElem hj
  have hd := List.drop_eq_getElem_cons hj
  generalize calls[j] = op at hop hd
  rw [hd] at h2
  generalize et : calls.drop (j + 1) = tl at h2
  cases k with
  | zero => unfold ansM at h2; cases h2
  | succ k =>
  unfold ansM at h2
  split at h2
  case isFalse => cases h2
  rename_i g
  obtain ⟨g0, g1, g2⟩ := g
  obtain ⟨sm, q1, h3⟩ := bind_some h2
  obtain ⟨x, q2, h4⟩ := bind_some h3
  obtain ⟨y, q3, h5⟩ := bind_some h4
  have ey := (Option.some.inj h5).symm
  clear h2 h3 h4 h5
  have ac := cn_at g0 g1
  refine ⟨_, fun σ' H' w => ⟨k, Nat.lt_succ_self k, w⟩, ?_⟩
  -- operation, numbers
  refine ⟨_, rfl, _, rfl, p, _, j, _, rfl, rfl, P2.sq, at_of (j := j) rfl (by rw [List.getElem?_map, hop]; rfl), ?_⟩
  refine ⟨_, rfl, _, rfl, _, _, rfl, rfl, _, rfl, _, rfl, _, _, rfl, rfl, _, rfl, _, _, op, _, rfl, rfl, TB.c H2, ac, _, _, rfl, rfl, _, rfl, p, _, rfl, P2.sq, fun nq hn => ?_⟩
  have ecut : cutV (calls.map V.int) (some ((j : Int) + 1)) (some ((j : Int) + 1 + (cn op : Int))) = (tl.take (cn op)).map V.int := by
    have := cut_mid (f := V.int) calls (a := j + 1) (b := j + 1 + cn op) (by omega)
    rw [et, show j + 1 + cn op - (j + 1) = cn op by omega] at this
    rw [← this]
    rfl
  rw [ecut]
  generalize e3 : upd _ _ _ = H3
  obtain ⟨A3, hn3, tn3⟩ := KA.new (T := T2) .frz hn e3
  have S3 := S2.ka A3
  have P3 := P2.ka A3
  obtain ⟨hf3, tf3⟩ := A3 _ _ hf2
  have tf3 := tf3.trans tf2
  generalize rtg H2 T2 nq .frz = T3 at *
  clear S2 P2 hf2 tf2 A3
  -- at, some
  refine ⟨_, rfl, _, rfl, _, _, op, _, rfl, rfl, TB.c H3, ac, _, _, rfl, rfl, _, _, rfl, rfl, ?_⟩
  refine ⟨by show 0 ≤ sizeLine; omega, fun u0 hu => ?_⟩
  generalize e4 : upd _ _ _ = H4
  obtain ⟨A4, hu4, tu4⟩ := KA.new (T := T3) .frz hu e4
  have S4 := S3.ka A4
  have P4 := P3.ka A4
  obtain ⟨hf4, tf4⟩ := A4 _ _ hf3
  obtain ⟨hn4, tn4⟩ := A4 _ _ hn3
  have tf4 := tf4.trans tf3
  have tn4 := tn4.trans tn3
  generalize rtg H3 T3 u0 .frz = T4 at *
  clear S3 P3 hf3 tf3 A4 hn3 tn3
  refine ⟨fun σ' H' => ∃ (j' : Nat) (T' : Tm) (uq : Addr), σ' = [some (.ref p), some lkv, some (.ref f), some (.int (j' : Int)), some (.int op), some (.ref nq), some (.ref uq), v7, v8] ∧ StQ K H' T' lkv st ∧ ArgQ K H' T' p (calls.map V.int) ∧ H' f = some (.lst (done.map V.int)) ∧ T' f = .loc ∧
    H' nq = some (.lst ((tl.take (cn op)).map V.int)) ∧ T' nq = .frz ∧ H' uq = some (.lst (sm.1.map V.int)) ∧ T' uq = .frz ∧ sm.2 = calls.drop j', ?_, ?_⟩
  · refine ⟨_, rfl, (by show 2 ≤ sizeLine; omega), fun w hw => ?_⟩
    generalize e5 : upd _ _ _ = H5
    obtain ⟨A5, hw5, _⟩ := KA.new (T := T4) .frz hw e5
    have S5 := S4.ka A5
    have P5 := P4.ka A5
    obtain ⟨hf5, tf5⟩ := A5 _ _ hf4
    obtain ⟨hn5, tn5⟩ := A5 _ _ hn4
    obtain ⟨hu5, tu5⟩ := A5 _ _ hu4
    have tf5 := tf5.trans tf4
    have tn5 := tn5.trans tn4
    have tu5 := tu5.trans tu4
    generalize rtg H4 T4 w .frz = T5 at *
    clear S4 P4 hf4 tf4 A5 hn4 tn4 hu4 tu4
    refine ⟨w, _, rfl, .inr (SqT.of hw5), rfl, rfl, _, rfl, ?_⟩
    rw [show (if false = true then !inV (.int op) [.int 2, .int 15] else inV (.int op) [.int 2, .int 15]) = decide (op = 2 ∨ op = 15) from in2]
    have edrop : tl.drop (cn op) = calls.drop (j + 1 + cn op) := by rw [← et, List.drop_drop]
    unfold someM at q1
    refine ifD (c := op = 2 ∨ op = 15) (fun c1 => ?_) (fun c1 => ?_)
    · rw [if_pos c1] at q1
      have ej : (j : Int) + (1 + (cn op : Int)) = ((j + 1 + cn op : Nat) : Int) := by omega
      show tSeq _ _ _ [some (.ref p), some lkv, some (.ref f), some (.int ((j : Int) + (1 + (cn op : Int)))), some (.int op), some (.ref nq), some (.ref u0), v7, v8] H5
      rw [ej]
      generalize j + 1 + cn op = j1 at *
      cases hr : tl.drop (cn op) with
      | nil => rw [hr] at q1; cases q1
      | cons kk r2 =>
        rw [hr] at q1
        have q1 : (if 0 ≤ kk then some (r2.take kk.toNat, r2.drop kk.toNat) else none) = some sm := q1
        split at q1
        case isFalse => cases q1
        rename_i hk0
        cases q1
        rw [hr] at edrop
        have hj1 : j1 < calls.length := by
          have := congrArg List.length edrop
          rw [List.length_cons, List.length_drop] at this
          omega
        have hd1 := List.drop_eq_getElem_cons hj1
        rw [← edrop] at hd1
        have hk : calls[j1]? = some kk := by
          rw [List.getElem?_eq_getElem hj1]
          exact congrArg some (List.cons.inj hd1).1.symm
        have hr2 : calls.drop (j1 + 1) = r2 := (List.cons.inj hd1).2.symm
        have ak : atI (calls.map V.int) (j1 : Int) = some (.int kk) := at_of (j := j1) rfl (by rw [List.getElem?_map, hk]; rfl)
        obtain ⟨kn, rfl⟩ := Int.eq_ofNat_of_zero_le hk0
        refine ⟨_, rfl, _, rfl, _, _, rfl, rfl, _, rfl, _, rfl, _, _, rfl, rfl, _, rfl, _, rfl, p, _, j1, _, rfl, rfl, P5.sq, ak, _, _, rfl, rfl, _, rfl, p, _, rfl, P5.sq, fun uq hq => ?_⟩
        have ecut : cutV (calls.map V.int) (some ((j1 : Int) + 1)) (some ((j1 : Int) + 1 + (kn : Int))) = (r2.take kn).map V.int := by
          have := cut_mid (f := V.int) calls (a := j1 + 1) (b := j1 + 1 + kn) (by omega)
          rw [hr2, show j1 + 1 + kn - (j1 + 1) = kn by omega] at this
          rw [← this]
          rfl
        rw [ecut]
        generalize e6 : upd _ _ _ = H6
        obtain ⟨A6, hu6, tu6⟩ := KA.new (T := T5) .frz hq e6
        have S6 := S5.ka A6
        have P6 := P5.ka A6
        obtain ⟨hf6, tf6⟩ := A6 _ _ hf5
        obtain ⟨hn6, tn6⟩ := A6 _ _ hn5
        refine ⟨_, rfl, _, rfl, _, rfl, p, _, j1, _, rfl, rfl, P6.sq, ak, _, _, rfl, rfl, _, _, rfl, rfl, ?_⟩
        refine ⟨j1 + 1 + kn, _, uq, ?_, S6, P6, hf6, tf6.trans tf5, hn6, tn6.trans tn5, hu6, tu6, ?_⟩
        · show [some (.ref p), some lkv, some (.ref f), some (.int ((j1 : Int) + (1 + (kn : Int)))), some (.int op), some (.ref nq), some (.ref uq), v7, v8] = _
          rw [show ((j1 : Int) + (1 + (kn : Int))) = ((j1 + 1 + kn : Nat) : Int) by omega]
        · show r2.drop kn = _
          rw [← hr2, List.drop_drop]
    · rw [if_neg c1] at q1
      cases q1
      refine ⟨j + 1 + cn op, T5, u0, ?_, S5, P5, hf5, tf5, hn5, tn5, hu5, tu5, edrop⟩
      show [some (.ref p), some lkv, some (.ref f), some (.int ((j : Int) + (1 + (cn op : Int)))), some (.int op), some (.ref nq), some (.ref u0), v7, v8] = _
      rw [show ((j : Int) + (1 + (cn op : Int))) = ((j + 1 + cn op : Nat) : Int) by omega]
  clear S4 P4 hf4 tf4 hn4 tn4 hu4 tu4
  rintro σ' H5 ⟨j', T5, uq, rfl, S5, P5, hf5, tf5, hn5, tn5, hu5, tu5, es⟩
  have ln : (tl.take (cn op)).length = cn op := by rw [List.length_take]; omega
  -- the answer
  refine ⟨fun σ' H' => ∃ (T' : Tm) (lkv' : V) (aq : Addr) (v7' : Option V), σ' = [some (.ref p), some lkv', some (.ref f), some (.int (j' : Int)), some (.int op), some (.ref nq), some (.ref uq), v7', some (.ref aq)] ∧ StQ K H' T' lkv' x.1 ∧ ArgQ K H' T' p (calls.map V.int) ∧ H' f = some (.lst (done.map V.int)) ∧ T' f = .loc ∧
    H' aq = some (.lst (x.2.map V.int)) ∧ aq ≠ f, ?_, ?_⟩
  · unfold callM at q2
    refine ⟨_, rfl, _, _, rfl, rfl, _, rfl, ?_⟩
    refine ifD (c := op = 0) (fun c1 => ?_) (fun c1 => ?_)
    · rw [if_pos c1] at q2
      rw [c1] at ln hn5 q2
      obtain ⟨m, b, t, kk, i0, j0, e6⟩ := six (ln.trans (by decide))
      rw [e6] at q2 hn5
      refine ⟨_, rfl, T5, nq, m, b, t, kk, i0, j0, rfl, hn5, TB, fun hN H6 s6 => ?_, fun l hS H6 T6 L6 R6 A6 => ?_⟩
      · rw [hN] at q2
        cases q2
        have A6 : KA H5 T5 H6 T5 := KA.same s6
        have S6 := S5.ka A6
        have P6 := P5.ka A6
        obtain ⟨hf6, _⟩ := A6 _ _ hf5
        refine ⟨_, rfl, _, rfl, iteT ⟨by show 1 ≤ sizeLine; omega, fun aq ha => ?_⟩⟩
        generalize e7 : upd _ _ _ = H7
        obtain ⟨A7, ha7, _⟩ := KA.new (T := T5) .frz ha e7
        have S7 := S6.ka A7
        have P7 := P6.ka A7
        obtain ⟨hf7, tf7⟩ := A7 _ _ hf6
        refine ⟨_, rfl, _, rfl, iteT ⟨_, rfl, _, _, aq, _, rfl, S7, P7, hf7, tf7.trans tf5, ha7, fun z => by rw [z, hf6] at ha; cases ha⟩⟩
      · rw [hS] at q2
        cases q2
        have P6 := P5.ka A6
        obtain ⟨hf6, tf6⟩ := A6 _ _ hf5
        have S6 : StQ K H6 T6 (.ref L6.lk) (some l) := ⟨L6, rfl, R6⟩
        refine ⟨_, rfl, _, rfl, iteF ⟨by show 1 ≤ sizeLine; omega, fun aq ha => ?_⟩⟩
        generalize e7 : upd _ _ _ = H7
        obtain ⟨A7, ha7, _⟩ := KA.new (T := T6) .frz ha e7
        have S7 := S6.ka A7
        have P7 := P6.ka A7
        obtain ⟨hf7, tf7⟩ := A7 _ _ hf6
        refine ⟨_, rfl, _, rfl, iteF ⟨_, rfl, _, _, aq, _, rfl, S7, P7, hf7, tf7.trans (tf6.trans tf5), ha7, fun z => by rw [z, hf6] at ha; cases ha⟩⟩
    · rw [if_neg c1] at q2
      cases st with
      | none =>
        cases q2
        have S5 : lkv = .non := S5
        subst S5
        refine ⟨_, rfl, _, rfl, iteT ⟨by show 1 ≤ sizeLine; omega, fun aq ha => ?_⟩⟩
        generalize e7 : upd _ _ _ = H7
        obtain ⟨A7, ha7, _⟩ := KA.new (T := T5) .frz ha e7
        have P7 := P5.ka A7
        obtain ⟨hf7, tf7⟩ := A7 _ _ hf5
        exact ⟨_, .non, aq, v7, rfl, rfl, P7, hf7, tf7.trans tf5, ha7, fun z => by rw [z, hf5] at ha; cases ha⟩
      | some l =>
        obtain ⟨L, rfl, R5⟩ := S5
        obtain ⟨rr, q4, q5⟩ := bind_some (show (deed l op (tl.take (cn op)) sm.1).bind (fun r => some (some r.1, r.2)) = some x from q2)
        cases q5
        refine ⟨_, rfl, _, rfl, iteF ⟨_, rfl, _, rfl, _, rfl, _, rfl, T5, L, l, op, nq, uq, _, _, rfl, R5, hn5, hu5, tu5, by omega, g1, enough_cn (by omega) g1 ln, rr, q4, fun H6 T6 L6 aq R6 N6 ha hz => ?_⟩⟩
        have F := N6.2.2.2
        refine ⟨T6, .ref L.lk, aq, v7, rfl, ⟨L6, by rw [N6.1], R6⟩, P5.fr F, (F _ _ hf5).2.2 (.inr tf5), ((F _ _ hf5).1).trans tf5, ha, fun z => by rw [z, hf5] at hz; cases hz⟩
  clear S5 P5 hf5 tf5 hn5 tn5 hu5 tu5
  rintro σ' H6 ⟨T6, lkv', aq, v7', rfl, S6, P6, hf6, tf6, ha6, naf⟩
  have lens : done.length + (1 + x.2.length) + y.length ≤ 10000000 := by
    have e := congrArg List.length er
    rw [ey, List.length_append, List.length_append, List.length_cons] at e
    omega
  refine ⟨_, rfl, .inl ⟨rfl, _, SqL.of hf6⟩, _, rfl, aq, _, rfl, .inl (SqL.of ha6), _, _, _, rfl, rfl, hf6, (by rw [List.length_map]; omega), ?_⟩
  rw [List.length_map, show done.map V.int ++ [V.int (x.2.length : Int)] = (done ++ [(x.2.length : Int)]).map V.int by rw [List.map_append]; rfl]
  have S7 := S6.loc (u := .lst ((done ++ [(x.2.length : Int)]).map V.int)) tf6
  have P7 := P6.loc (u := .lst ((done ++ [(x.2.length : Int)]).map V.int)) tf6
  generalize e7 : upd _ _ _ = H7 at S7 P7 ⊢
  obtain ⟨hf7, o7⟩ := keep_upd e7
  have ha7 := (o7 aq naf).trans ha6
  refine ⟨_, rfl, .inl ⟨rfl, _, SqL.of hf7⟩, _, rfl, _, _, _, _, rfl, rfl, hf7, ha7, (by rw [List.length_map, List.length_map, List.length_append, List.length_singleton]; omega), ?_⟩
  rw [← List.map_append]
  have S8 := S7.loc (u := .lst ((done ++ [(x.2.length : Int)] ++ x.2).map V.int)) tf6
  have P8 := P7.loc (u := .lst ((done ++ [(x.2.length : Int)] ++ x.2).map V.int)) tf6
  generalize e8 : upd _ _ _ = H8 at S8 P8 ⊢
  obtain ⟨hf8, o8⟩ := keep_upd e8
  refine ⟨j', x.1, T6, lkv', _, y, _, _, _, _, _, rfl, S8, P8, hf8, tf6, by rw [← es]; exact q3, ?_⟩
  rw [er, ey, List.append_assoc, List.append_assoc]
  rfl
end
end Ws
set_option Elab.async false
set_option linter.all false
set_option maxRecDepth 100000
set_option maxHeartbeats 4000000
namespace Ws
open PySem PySem.Spec PyProof.Rows L2 Wt

theorem txC {K : PySem.W.Frag} (c : He.SaysD Wh.fa Wh.fn K) : TxC K := ⟨He.cls_ok (c.fact 1 (f := .cls "Segment") rfl), He.cls_ok (c.fact 13 (f := .cls "Part") rfl), He.cls_ok (c.fact 23 (f := .cls "Endpoint") rfl), He.cls_ok (c.fact 59 (f := .cls "Settings") rfl), He.cls_ok (c.fact 67 (f := .cls "Link") rfl), He.noat_ok (c.fact 3 (f := .noat "Segment" "sender") rfl), He.noat_ok (c.fact 4 (f := .noat "Segment" "flags") rfl), He.noat_ok (c.fact 5 (f := .noat "Segment" "sequence") rfl), He.noat_ok (c.fact 6 (f := .noat "Segment" "payload") rfl), He.noat_ok (c.fact 7 (f := .noat "Segment" "window") rfl), He.noat_ok (c.fact 8 (f := .noat "Segment" "confirmed") rfl), He.noat_ok (c.fact 9 (f := .noat "Segment" "blocks") rfl), He.noat_ok (c.fact 15 (f := .noat "Part" "position") rfl), He.noat_ok (c.fact 16 (f := .noat "Part" "flag") rfl), He.noat_ok (c.fact 17 (f := .noat "Part" "payload") rfl), He.noat_ok (c.fact 18 (f := .noat "Part" "sent_at") rfl), He.noat_ok (c.fact 19 (f := .noat "Part" "transmissions") rfl), He.noat_ok (c.fact 20 (f := .noat "Part" "marked") rfl), He.noat_ok (c.fact 25 (f := .noat "Endpoint" "side") rfl), He.noat_ok (c.fact 26 (f := .noat "Endpoint" "initial") rfl), He.noat_ok (c.fact 27 (f := .noat "Endpoint" "state") rfl), He.noat_ok (c.fact 28 (f := .noat "Endpoint" "acknowledged") rfl), He.noat_ok (c.fact 29 (f := .noat "Endpoint" "next_position") rfl), He.noat_ok (c.fact 30 (f := .noat "Endpoint" "unsent") rfl), He.noat_ok (c.fact 31 (f := .noat "Endpoint" "parts") rfl), He.noat_ok (c.fact 32 (f := .noat "Endpoint" "closing") rfl), He.noat_ok (c.fact 33 (f := .noat "Endpoint" "fin_sent") rfl), He.noat_ok (c.fact 34 (f := .noat "Endpoint" "peer_initial") rfl), He.noat_ok (c.fact 35 (f := .noat "Endpoint" "expected") rfl), He.noat_ok (c.fact 36 (f := .noat "Endpoint" "readable") rfl), He.noat_ok (c.fact 37 (f := .noat "Endpoint" "early") rfl), He.noat_ok (c.fact 38 (f := .noat "Endpoint" "fin_position") rfl), He.noat_ok (c.fact 39 (f := .noat "Endpoint" "fin_received") rfl), He.noat_ok (c.fact 40 (f := .noat "Endpoint" "peer_window") rfl), He.noat_ok (c.fact 41 (f := .noat "Endpoint" "congestion") rfl), He.noat_ok (c.fact 42 (f := .noat "Endpoint" "threshold") rfl), He.noat_ok (c.fact 43 (f := .noat "Endpoint" "timeout") rfl), He.noat_ok (c.fact 44 (f := .noat "Endpoint" "timer") rfl), He.noat_ok (c.fact 45 (f := .noat "Endpoint" "duplicates") rfl), He.noat_ok (c.fact 46 (f := .noat "Endpoint" "retransmissions") rfl), He.noat_ok (c.fact 47 (f := .noat "Endpoint" "measured") rfl), He.noat_ok (c.fact 48 (f := .noat "Endpoint" "smoothed") rfl), He.noat_ok (c.fact 49 (f := .noat "Endpoint" "variation") rfl), He.noat_ok (c.fact 50 (f := .noat "Endpoint" "written") rfl), He.noat_ok (c.fact 51 (f := .noat "Endpoint" "consumed") rfl), He.noat_ok (c.fact 61 (f := .noat "Settings" "segment_size") rfl), He.noat_ok (c.fact 62 (f := .noat "Settings" "buffer") rfl), He.noat_ok (c.fact 63 (f := .noat "Settings" "timeout") rfl), He.noat_ok (c.fact 64 (f := .noat "Settings" "attempts") rfl), He.noat_ok (c.fact 65 (f := .noat "Settings" "initials") rfl), He.noat_ok (c.fact 69 (f := .noat "Link" "settings") rfl), He.noat_ok (c.fact 70 (f := .noat "Link" "now") rfl), He.noat_ok (c.fact 71 (f := .noat "Link" "ends") rfl), He.noat_ok (c.fact 72 (f := .noat "Link" "segments") rfl), He.noat_ok (c.fact 73 (f := .noat "Link" "sent") rfl), He.noat_ok (c.fact 74 (f := .noat "Link" "delivered") rfl), He.noat_ok (c.fact 75 (f := .noat "Link" "lost") rfl)⟩
theorem txM {K : PySem.W.Frag} {h : Heap} {mg : Str → Option Value} (X : K.In h) (G : h.Ns mainGlobals mg) (c : He.SaysD Wh.fa Wh.fn K) : TxM K mg := ⟨txC c, He.int_ok X G (c.fact 139 (f := .int "MODULUS" (65536)) rfl), He.int_ok X G (c.fact 140 (f := .int "HALF" (32768)) rfl), He.int_ok X G (c.fact 141 (f := .int "SYN" (1)) rfl), He.int_ok X G (c.fact 142 (f := .int "FIN" (2)) rfl), He.int_ok X G (c.fact 143 (f := .int "RESET" (4)) rfl), He.int_ok X G (c.fact 144 (f := .int "ACKNOWLEDGEMENT" (8)) rfl), He.int_ok X G (c.fact 145 (f := .int "CLOSED" (0)) rfl), He.int_ok X G (c.fact 146 (f := .int "LISTENING" (1)) rfl), He.int_ok X G (c.fact 147 (f := .int "SYN_SENT" (2)) rfl), He.int_ok X G (c.fact 148 (f := .int "SYN_RECEIVED" (3)) rfl), He.int_ok X G (c.fact 149 (f := .int "ESTABLISHED" (4)) rfl), He.int_ok X G (c.fact 150 (f := .int "FAILED" (8)) rfl), He.int_ok X G (c.fact 151 (f := .int "NO_FIN" (-1)) rfl), He.int_ok X G (c.fact 152 (f := .int "MOST_SEGMENTS" (60)) rfl), He.int_ok X G (c.fact 153 (f := .int "MOST_BLOCKS" (3)) rfl), He.int_ok X G (c.fact 154 (f := .int "MOST_TIMEOUT" (60000)) rfl), He.int_ok X G (c.fact 155 (f := .int "LEAST_TIMEOUT" (20)) rfl), He.int_ok X G (c.fact 156 (f := .int "MOST_CONGESTION" (10000)) rfl), He.int_ok X G (c.fact 157 (f := .int "ENOUGH_DUPLICATES" (3)) rfl), He.int_ok X G (c.fact 158 (f := .int "NO_SIDE" (-2)) rfl), He.int_ok X G (c.fact 159 (f := .int "BEYOND" (-22)) rfl), He.int_ok X G (c.fact 160 (f := .int "WRONG_STATE" (-16)) rfl), He.int_ok X G (c.fact 161 (f := .int "FULL" (-28)) rfl), He.int_ok X G (c.fact 162 (f := .int "NO_TIMER" (-33)) rfl), He.int_ok X G (c.fact 163 (f := .int "GREATEST_BYTE" (255)) rfl), He.int_ok X G (c.fact 164 (f := .int "LONGEST" (100000)) rfl), He.int_ok X G (c.fact 165 (f := .int "MOST_EXPIRED" (10000)) rfl), He.int_ok X G (c.fact 166 (f := .int "MOST_FATES" (64)) rfl), He.int_ok X G (c.fact 167 (f := .int "NO_LINK" (-11)) rfl), He.int_ok X G (c.fact 168 (f := .int "CREATE" (0)) rfl), He.int_ok X G (c.fact 169 (f := .int "WRITE" (2)) rfl), He.int_ok X G (c.fact 170 (f := .int "RUN" (15)) rfl), He.free_ok X G (c.fact 171 (f := .free "len") rfl), He.free_ok X G (c.fact 172 (f := .free "max") rfl), He.free_ok X G (c.fact 173 (f := .free "min") rfl), He.free_ok X G (c.fact 174 (f := .free "sum") rfl), He.free_ok X G (c.fact 175 (f := .free "sorted") rfl), He.free_ok X G (c.fact 176 (f := .free "range") rfl), He.free_ok X G (c.fact 177 (f := .free "int") rfl), He.free_ok X G (c.fact 178 (f := .free "zip") rfl), He.free_ok X G (c.fact 179 (f := .free "abs") rfl), He.glo_ok X G (c.fact 181 (f := .glo "COUNTS") rfl), He.glo_ok X G (c.fact 180 (f := .glo "LIMITS") rfl)⟩
theorem defs_ok {K : PySem.W.Frag} {h : Heap} {mg : Str → Option Value} (X : K.In h) (G : h.Ns mainGlobals mg) (c : He.SaysD Wh.fa Wh.fn K) : DefsOk K mg := ⟨txM X G c,
  c.def_ 0 (d := d_Segment_init) rfl,
  He.mkr_ok (c.fact 2 (f := .mkr "Segment") rfl),
  He.glo_ok X G (c.fact 0 (f := .glo "Segment") rfl),
  c.def_ 1 (d := d_Segment_has_flag) rfl,
  He.meth_ok (c.fact 10 (f := .meth "Segment" "has_flag") rfl),
  c.def_ 2 (d := d_Segment_size) rfl,
  He.meth_ok (c.fact 11 (f := .meth "Segment" "size") rfl),
  c.def_ 3 (d := d_Part_init) rfl,
  He.mkr_ok (c.fact 14 (f := .mkr "Part") rfl),
  He.glo_ok X G (c.fact 12 (f := .glo "Part") rfl),
  c.def_ 4 (d := d_Part_end) rfl,
  He.meth_ok (c.fact 21 (f := .meth "Part" "end") rfl),
  c.def_ 5 (d := d_Endpoint_init) rfl,
  He.mkr_ok (c.fact 24 (f := .mkr "Endpoint") rfl),
  He.glo_ok X G (c.fact 22 (f := .glo "Endpoint") rfl),
  c.def_ 6 (d := d_Endpoint_in_flight) rfl,
  He.meth_ok (c.fact 52 (f := .meth "Endpoint" "in_flight") rfl),
  c.def_ 7 (d := d_Endpoint_shown_state) rfl,
  He.meth_ok (c.fact 53 (f := .meth "Endpoint" "shown_state") rfl),
  c.def_ 8 (d := d_Endpoint_held_bytes) rfl,
  He.meth_ok (c.fact 54 (f := .meth "Endpoint" "held_bytes") rfl),
  c.def_ 9 (d := d_Endpoint_first_unmarked) rfl,
  He.meth_ok (c.fact 55 (f := .meth "Endpoint" "first_unmarked") rfl),
  c.def_ 10 (d := d_Endpoint_fail) rfl,
  He.meth_ok (c.fact 56 (f := .meth "Endpoint" "fail") rfl),
  c.def_ 11 (d := d_Endpoint_early_ranges) rfl,
  He.meth_ok (c.fact 57 (f := .meth "Endpoint" "early_ranges") rfl),
  c.def_ 12 (d := d_Settings_init) rfl,
  He.mkr_ok (c.fact 60 (f := .mkr "Settings") rfl),
  He.glo_ok X G (c.fact 58 (f := .glo "Settings") rfl),
  c.def_ 13 (d := d_Link_init) rfl,
  He.mkr_ok (c.fact 68 (f := .mkr "Link") rfl),
  He.glo_ok X G (c.fact 66 (f := .glo "Link") rfl),
  c.def_ 14 (d := d_Link_window_of) rfl,
  He.meth_ok (c.fact 76 (f := .meth "Link" "window_of") rfl),
  c.def_ 15 (d := d_sequence_of) rfl,
  He.glo_ok X G (c.fact 77 (f := .glo "sequence_of") rfl),
  c.def_ 16 (d := d_position_of) rfl,
  He.glo_ok X G (c.fact 78 (f := .glo "position_of") rfl),
  c.def_ 17 (d := d_transmit) rfl,
  He.glo_ok X G (c.fact 79 (f := .glo "transmit") rfl),
  c.def_ 18 (d := d_send_acknowledgement) rfl,
  He.glo_ok X G (c.fact 80 (f := .glo "send_acknowledgement") rfl),
  c.def_ 19 (d := d_transmit_part) rfl,
  He.glo_ok X G (c.fact 81 (f := .glo "transmit_part") rfl),
  c.def_ 20 (d := d_start_timer) rfl,
  He.glo_ok X G (c.fact 82 (f := .glo "start_timer") rfl),
  c.def_ 21 (d := d_send_part) rfl,
  He.glo_ok X G (c.fact 83 (f := .glo "send_part") rfl),
  c.def_ 22 (d := d_send_bytes) rfl,
  He.glo_ok X G (c.fact 84 (f := .glo "send_bytes") rfl),
  c.def_ 23 (d := d_allowance_of) rfl,
  He.glo_ok X G (c.fact 85 (f := .glo "allowance_of") rfl),
  c.def_ 24 (d := d_output) rfl,
  He.glo_ok X G (c.fact 86 (f := .glo "output") rfl),
  c.def_ 25 (d := d_retransmit) rfl,
  He.glo_ok X G (c.fact 87 (f := .glo "retransmit") rfl),
  c.def_ 26 (d := d_halved) rfl,
  He.glo_ok X G (c.fact 88 (f := .glo "halved") rfl),
  c.def_ 27 (d := d_double_timeout) rfl,
  He.glo_ok X G (c.fact 89 (f := .glo "double_timeout") rfl),
  c.def_ 28 (d := d_expire) rfl,
  He.glo_ok X G (c.fact 90 (f := .glo "expire") rfl),
  c.def_ 29 (d := d_next_endpoint) rfl,
  He.glo_ok X G (c.fact 91 (f := .glo "next_endpoint") rfl),
  c.def_ 30 (d := d_fire) rfl,
  He.glo_ok X G (c.fact 92 (f := .glo "fire") rfl),
  c.def_ 31 (d := d_receive) rfl,
  He.glo_ok X G (c.fact 93 (f := .glo "receive") rfl),
  c.def_ 32 (d := d_receive_reset) rfl,
  He.glo_ok X G (c.fact 94 (f := .glo "receive_reset") rfl),
  c.def_ 33 (d := d_take_syn) rfl,
  He.glo_ok X G (c.fact 95 (f := .glo "take_syn") rfl),
  c.def_ 34 (d := d_confirms_syn) rfl,
  He.glo_ok X G (c.fact 96 (f := .glo "confirms_syn") rfl),
  c.def_ 35 (d := d_receive_listening) rfl,
  He.glo_ok X G (c.fact 97 (f := .glo "receive_listening") rfl),
  c.def_ 36 (d := d_receive_syn_sent) rfl,
  He.glo_ok X G (c.fact 98 (f := .glo "receive_syn_sent") rfl),
  c.def_ 37 (d := d_receive_syn_received) rfl,
  He.glo_ok X G (c.fact 99 (f := .glo "receive_syn_received") rfl),
  c.def_ 38 (d := d_receive_established) rfl,
  He.glo_ok X G (c.fact 100 (f := .glo "receive_established") rfl),
  c.def_ 39 (d := d_receive_confirmation) rfl,
  He.glo_ok X G (c.fact 101 (f := .glo "receive_confirmation") rfl),
  c.def_ 40 (d := d_mark_parts) rfl,
  He.glo_ok X G (c.fact 102 (f := .glo "mark_parts") rfl),
  c.def_ 41 (d := d_count_duplicate) rfl,
  He.glo_ok X G (c.fact 103 (f := .glo "count_duplicate") rfl),
  c.def_ 42 (d := d_accept) rfl,
  He.glo_ok X G (c.fact 104 (f := .glo "accept") rfl),
  c.def_ 43 (d := d_take_early) rfl,
  He.glo_ok X G (c.fact 105 (f := .glo "take_early") rfl),
  c.def_ 44 (d := d_measure) rfl,
  He.glo_ok X G (c.fact 106 (f := .glo "measure") rfl),
  c.def_ 45 (d := d_grow) rfl,
  He.glo_ok X G (c.fact 107 (f := .glo "grow") rfl),
  c.def_ 46 (d := d_acknowledge) rfl,
  He.glo_ok X G (c.fact 108 (f := .glo "acknowledge") rfl),
  c.def_ 47 (d := d_made_link) rfl,
  He.glo_ok X G (c.fact 109 (f := .glo "made_link") rfl),
  c.def_ 48 (d := d_connect) rfl,
  He.glo_ok X G (c.fact 110 (f := .glo "connect") rfl),
  c.def_ 49 (d := d_is_barred) rfl,
  He.glo_ok X G (c.fact 111 (f := .glo "is_barred") rfl),
  c.def_ 50 (d := d_write) rfl,
  He.glo_ok X G (c.fact 112 (f := .glo "write") rfl),
  c.def_ 51 (d := d_read) rfl,
  He.glo_ok X G (c.fact 113 (f := .glo "read") rfl),
  c.def_ 52 (d := d_close) rfl,
  He.glo_ok X G (c.fact 114 (f := .glo "close") rfl),
  c.def_ 53 (d := d_abort) rfl,
  He.glo_ok X G (c.fact 115 (f := .glo "abort") rfl),
  c.def_ 54 (d := d_list_segments) rfl,
  He.glo_ok X G (c.fact 116 (f := .glo "list_segments") rfl),
  c.def_ 55 (d := d_show_segment) rfl,
  He.glo_ok X G (c.fact 117 (f := .glo "show_segment") rfl),
  c.def_ 56 (d := d_deliver) rfl,
  He.glo_ok X G (c.fact 118 (f := .glo "deliver") rfl),
  c.def_ 57 (d := d_drop) rfl,
  He.glo_ok X G (c.fact 119 (f := .glo "drop") rfl),
  c.def_ 58 (d := d_copy_segment) rfl,
  He.glo_ok X G (c.fact 120 (f := .glo "copy_segment") rfl),
  c.def_ 59 (d := d_postpone) rfl,
  He.glo_ok X G (c.fact 121 (f := .glo "postpone") rfl),
  c.def_ 60 (d := d_segment_deed) rfl,
  He.glo_ok X G (c.fact 122 (f := .glo "segment_deed") rfl),
  c.def_ 61 (d := d_advance) rfl,
  He.glo_ok X G (c.fact 123 (f := .glo "advance") rfl),
  c.def_ 62 (d := d_next_timer) rfl,
  He.glo_ok X G (c.fact 124 (f := .glo "next_timer") rfl),
  c.def_ 63 (d := d_fire_timer) rfl,
  He.glo_ok X G (c.fact 125 (f := .glo "fire_timer") rfl),
  c.def_ 64 (d := d_step) rfl,
  He.glo_ok X G (c.fact 126 (f := .glo "step") rfl),
  c.def_ 65 (d := d_run) rfl,
  He.glo_ok X G (c.fact 127 (f := .glo "run") rfl),
  c.def_ 66 (d := d_status) rfl,
  He.glo_ok X G (c.fact 128 (f := .glo "status") rfl),
  c.def_ 67 (d := d_congestion) rfl,
  He.glo_ok X G (c.fact 129 (f := .glo "congestion") rfl),
  c.def_ 68 (d := d_list_outstanding) rfl,
  He.glo_ok X G (c.fact 130 (f := .glo "list_outstanding") rfl),
  c.def_ 69 (d := d_show_ranges) rfl,
  He.glo_ok X G (c.fact 131 (f := .glo "show_ranges") rfl),
  c.def_ 70 (d := d_totals) rfl,
  He.glo_ok X G (c.fact 132 (f := .glo "totals") rfl),
  c.def_ 71 (d := d_statistics) rfl,
  He.glo_ok X G (c.fact 133 (f := .glo "statistics") rfl),
  c.def_ 72 (d := d_side_change) rfl,
  He.glo_ok X G (c.fact 134 (f := .glo "side_change") rfl),
  c.def_ 73 (d := d_side_question) rfl,
  He.glo_ok X G (c.fact 135 (f := .glo "side_question") rfl),
  c.def_ 74 (d := d_clock_deed) rfl,
  He.glo_ok X G (c.fact 136 (f := .glo "clock_deed") rfl),
  c.def_ 75 (d := d_deed) rfl,
  He.glo_ok X G (c.fact 137 (f := .glo "deed") rfl),
  c.def_ 76 (d := d_answers) rfl,
  He.glo_ok X G (c.fact 138 (f := .glo "answers") rfl)⟩
theorem tup_ok {K : PySem.W.Frag} {a : Addr} {vs : List V} (h : Wh.tupAt K a vs = true) (H : Hp) : SqT K H a vs := by
  unfold Wh.tupAt at h
  cases q : K.lookup a with
  | none =>
    rw [q] at h
    cases h
  | some o =>
    obtain ⟨oc, od, dt, osl⟩ := o
    rw [q] at h
    cases oc with
    | type c =>
      cases dt with
      | seq its n =>
        obtain ⟨h1, h2⟩ := He.ba (show (decide (c = "tuple") && (decide (its.size ≤ sizeLine) && He.relAll vs its.toList)) = true from h)
        obtain ⟨h3, h4⟩ := He.ba h2
        exact .inr ⟨_, its, n, q, congrArg Value.type (of_decide_eq_true h1), rfl, of_decide_eq_true h3, He.relAll_ok h4⟩
      | _ => cases h
    | _ => cases h
theorem tabs_ok {K : PySem.W.Frag} (h : Wh.tabs K = true) : Tabs K := by
  obtain ⟨h1, h2⟩ := He.ba h
  obtain ⟨h3, h4⟩ := He.ba h2
  refine ⟨fun H => tup_ok h1 H, (List.range 6).map (Wh.limAt K), by rw [List.length_map, List.length_range], fun H => ?_, fun j a p ha hp H => ?_⟩
  · have := tup_ok h3 H
    rw [List.map_map]
    exact this
  · rw [List.getElem?_map] at ha
    obtain ⟨i, hi, rfl⟩ := Option.map_eq_some_iff.mp ha
    obtain ⟨hl, ei⟩ := List.getElem?_eq_some_iff.mp hi
    rw [List.getElem_range] at ei
    subst ei
    have h5 := List.all_eq_true.mp h4 j (List.mem_range.mpr (by rw [List.length_range] at hl; exact hl))
    have e : Wh.limits[j]? = some p := hp
    rw [e] at h5
    exact tup_ok h5 H
section
variable {P : Program} {w : World} {K : PySem.W.Frag} {mg : Str → Option Value} {base : Heap}
theorem ok_all (D : DefsOk K mg) {fd : FuncData} (F : FunD K "answers" "answers" (defArgs s_answers) (defBody s_answers) (defScope s_answers) [] [] (He.ga K "answers") fd) : FnOk P w K mg base CX0 16 (He.ga K "answers") fd ["calls"] (sp_answers K) := by
  have k_double_timeout : OkF P w K mg base "double_timeout" 1 ["endpoint"] (sp_double_timeout K) := ok_double_timeout D 
  have k_Endpoint_in_flight : OkM P w K mg base (He.ga K "Endpoint") "in_flight" 1 ["self"] (sp_Endpoint_in_flight K) := ok_Endpoint_in_flight D 
  have k_halved : OkF P w K mg base "halved" 2 ["link", "endpoint"] (sp_halved K) := ok_halved D k_Endpoint_in_flight
  have k_sequence_of : OkF P w K mg base "sequence_of" 1 ["initial", "position"] (sp_sequence_of K) := ok_sequence_of D 
  have k_Segment_init : OkI P w K mg base "Segment" 1 ["self", "sender", "flags", "sequence", "payload"] (sp_Segment_init K) := ok_Segment_init D 
  have k_Endpoint_early_ranges : OkM P w K mg base (He.ga K "Endpoint") "early_ranges" 1 ["self"] (sp_Endpoint_early_ranges K) := ok_Endpoint_early_ranges D 
  have k_Link_window_of : OkM P w K mg base (He.ga K "Link") "window_of" 1 ["self", "endpoint"] (sp_Link_window_of K) := ok_Link_window_of D 
  have k_transmit : OkF P w K mg base "transmit" 3 ["link", "endpoint", "flags", "position", "payload"] (sp_transmit K) := ok_transmit D k_sequence_of k_Segment_init k_Endpoint_early_ranges k_Link_window_of
  have k_transmit_part : OkF P w K mg base "transmit_part" 4 ["link", "endpoint", "part"] (sp_transmit_part K) := ok_transmit_part D k_transmit
  have k_Endpoint_first_unmarked : OkM P w K mg base (He.ga K "Endpoint") "first_unmarked" 1 ["self"] (sp_Endpoint_first_unmarked K) := ok_Endpoint_first_unmarked D 
  have k_retransmit : OkF P w K mg base "retransmit" 5 ["link", "endpoint"] (sp_retransmit K) := ok_retransmit D k_transmit_part k_Endpoint_first_unmarked
  have k_start_timer : OkF P w K mg base "start_timer" 1 ["link", "endpoint"] (sp_start_timer K) := ok_start_timer D 
  have k_Part_init : OkI P w K mg base "Part" 1 ["self", "position", "flag", "payload", "sent_at"] (sp_Part_init K) := ok_Part_init D 
  have k_Part_end : OkM P w K mg base (He.ga K "Part") "end" 1 ["self"] (sp_Part_end K) := ok_Part_end D 
  have k_send_part : OkF P w K mg base "send_part" 5 ["link", "endpoint", "flag", "payload"] (sp_send_part K) := ok_send_part D k_start_timer k_transmit_part k_Part_init k_Part_end
  have k_send_bytes : OkF P w K mg base "send_bytes" 6 ["link", "endpoint", "many"] (sp_send_bytes K) := ok_send_bytes D k_send_part
  have k_Endpoint_fail : OkM P w K mg base (He.ga K "Endpoint") "fail" 1 ["self"] (sp_Endpoint_fail K) := ok_Endpoint_fail D 
  have k_expire : OkF P w K mg base "expire" 7 ["link", "endpoint"] (sp_expire K) := ok_expire D k_double_timeout k_halved k_retransmit k_send_bytes k_start_timer k_Endpoint_fail k_Endpoint_first_unmarked
  have k_fire : OkF P w K mg base "fire" 8 ["link", "endpoint"] (sp_fire K) := ok_fire D k_expire
  have k_next_endpoint : OkF P w K mg base "next_endpoint" 1 ["link"] (sp_next_endpoint K) := ok_next_endpoint D 
  have k_advance : OkF P w K mg base "advance" 9 ["link", "duration"] (sp_advance K) := ok_advance D k_fire k_next_endpoint
  have k_fire_timer : OkF P w K mg base "fire_timer" 9 ["link"] (sp_fire_timer K) := ok_fire_timer D k_fire k_next_endpoint
  have k_next_timer : OkF P w K mg base "next_timer" 2 ["link"] (sp_next_timer K) := ok_next_timer D k_next_endpoint
  have k_copy_segment : OkF P w K mg base "copy_segment" 1 ["link", "index"] (sp_copy_segment K) := ok_copy_segment D 
  have k_position_of : OkF P w K mg base "position_of" 1 ["initial", "sequence", "reference"] (sp_position_of K) := ok_position_of D 
  have k_take_early : OkF P w K mg base "take_early" 1 ["endpoint"] (sp_take_early K) := ok_take_early D 
  have k_Segment_has_flag : OkM P w K mg base (He.ga K "Segment") "has_flag" 1 ["self", "flag"] (sp_Segment_has_flag K) := ok_Segment_has_flag D 
  have k_accept : OkF P w K mg base "accept" 2 ["link", "endpoint", "segment"] (sp_accept K) := ok_accept D k_position_of k_take_early k_Link_window_of k_Segment_has_flag
  have k_allowance_of : OkF P w K mg base "allowance_of" 2 ["endpoint"] (sp_allowance_of K) := ok_allowance_of D k_Endpoint_in_flight
  have k_output : OkF P w K mg base "output" 7 ["link", "endpoint"] (sp_output K) := ok_output D k_allowance_of k_send_bytes k_send_part k_start_timer
  have k_grow : OkF P w K mg base "grow" 1 ["link", "endpoint", "many"] (sp_grow K) := ok_grow D 
  have k_measure : OkF P w K mg base "measure" 1 ["link", "endpoint", "part"] (sp_measure K) := ok_measure D 
  have k_acknowledge : OkF P w K mg base "acknowledge" 2 ["link", "endpoint", "position"] (sp_acknowledge K) := ok_acknowledge D k_grow k_measure k_start_timer k_Part_end
  have k_count_duplicate : OkF P w K mg base "count_duplicate" 6 ["link", "endpoint"] (sp_count_duplicate K) := ok_count_duplicate D k_halved k_retransmit k_start_timer
  have k_mark_parts : OkF P w K mg base "mark_parts" 2 ["endpoint", "segment"] (sp_mark_parts K) := ok_mark_parts D k_position_of k_Part_end
  have k_Segment_size : OkM P w K mg base (He.ga K "Segment") "size" 2 ["self"] (sp_Segment_size K) := ok_Segment_size D k_Segment_has_flag
  have k_receive_confirmation : OkF P w K mg base "receive_confirmation" 7 ["link", "endpoint", "segment", "position"] (sp_receive_confirmation K) := ok_receive_confirmation D k_acknowledge k_count_duplicate k_mark_parts k_Segment_size
  have k_send_acknowledgement : OkF P w K mg base "send_acknowledgement" 4 ["link", "endpoint"] (sp_send_acknowledgement K) := ok_send_acknowledgement D k_transmit
  have k_receive_established : OkF P w K mg base "receive_established" 8 ["link", "endpoint", "segment"] (sp_receive_established K) := ok_receive_established D k_accept k_output k_position_of k_receive_confirmation k_send_acknowledgement k_Segment_has_flag k_Segment_size
  have k_take_syn : OkF P w K mg base "take_syn" 1 ["endpoint", "segment"] (sp_take_syn K) := ok_take_syn D 
  have k_receive_listening : OkF P w K mg base "receive_listening" 6 ["link", "endpoint", "segment"] (sp_receive_listening K) := ok_receive_listening D k_send_part k_take_syn k_Segment_has_flag
  have k_receive_reset : OkF P w K mg base "receive_reset" 2 ["link", "endpoint", "segment"] (sp_receive_reset K) := ok_receive_reset D k_position_of k_Endpoint_fail k_Link_window_of
  have k_confirms_syn : OkF P w K mg base "confirms_syn" 2 ["endpoint", "segment"] (sp_confirms_syn K) := ok_confirms_syn D k_sequence_of k_Segment_has_flag
  have k_receive_syn_received : OkF P w K mg base "receive_syn_received" 9 ["link", "endpoint", "segment"] (sp_receive_syn_received K) := ok_receive_syn_received D k_confirms_syn k_receive_established k_transmit_part k_Segment_has_flag
  have k_receive_syn_sent : OkF P w K mg base "receive_syn_sent" 8 ["link", "endpoint", "segment"] (sp_receive_syn_sent K) := ok_receive_syn_sent D k_acknowledge k_confirms_syn k_output k_send_acknowledgement k_take_syn k_Segment_has_flag
  have k_receive : OkF P w K mg base "receive" 10 ["link", "segment"] (sp_receive K) := ok_receive D k_receive_established k_receive_listening k_receive_reset k_receive_syn_received k_receive_syn_sent k_Segment_has_flag
  have k_Endpoint_shown_state : OkM P w K mg base (He.ga K "Endpoint") "shown_state" 1 ["self"] (sp_Endpoint_shown_state K) := ok_Endpoint_shown_state D 
  have k_deliver : OkF P w K mg base "deliver" 11 ["link", "index"] (sp_deliver K) := ok_deliver D k_receive k_Endpoint_shown_state
  have k_drop : OkF P w K mg base "drop" 1 ["link", "index"] (sp_drop K) := ok_drop D 
  have k_postpone : OkF P w K mg base "postpone" 1 ["link", "index"] (sp_postpone K) := ok_postpone D 
  have k_step : OkF P w K mg base "step" 12 ["link", "fate"] (sp_step K) := ok_step D k_copy_segment k_deliver k_drop k_fire_timer k_postpone
  have k_run : OkF P w K mg base "run" 13 ["link", "fates"] (sp_run K) := ok_run D k_step
  have k_clock_deed : OkF P w K mg base "clock_deed" 14 ["link", "operation", "numbers", "some"] (sp_clock_deed K) := ok_clock_deed D k_advance k_fire_timer k_next_timer k_run
  have k_connect : OkF P w K mg base "connect" 6 ["link"] (sp_connect K) := ok_connect D k_send_part
  have k_list_segments : OkF P w K mg base "list_segments" 1 ["link"] (sp_list_segments K) := ok_list_segments D 
  have k_show_segment : OkF P w K mg base "show_segment" 1 ["segment"] (sp_show_segment K) := ok_show_segment D 
  have k_segment_deed : OkF P w K mg base "segment_deed" 12 ["link", "operation", "index"] (sp_segment_deed K) := ok_segment_deed D k_copy_segment k_deliver k_drop k_postpone k_show_segment
  have k_is_barred : OkF P w K mg base "is_barred" 1 ["endpoint"] (sp_is_barred K) := ok_is_barred D 
  have k_abort : OkF P w K mg base "abort" 4 ["link", "endpoint"] (sp_abort K) := ok_abort D k_is_barred k_transmit k_Endpoint_fail
  have k_close : OkF P w K mg base "close" 8 ["link", "endpoint"] (sp_close K) := ok_close D k_is_barred k_output
  have k_read : OkF P w K mg base "read" 5 ["link", "endpoint", "many"] (sp_read K) := ok_read D k_send_acknowledgement k_Link_window_of
  have k_Endpoint_held_bytes : OkM P w K mg base (He.ga K "Endpoint") "held_bytes" 1 ["self"] (sp_Endpoint_held_bytes K) := ok_Endpoint_held_bytes D 
  have k_write : OkF P w K mg base "write" 8 ["link", "endpoint", "some"] (sp_write K) := ok_write D k_is_barred k_output k_Endpoint_held_bytes
  have k_side_change : OkF P w K mg base "side_change" 9 ["link", "operation", "numbers", "some"] (sp_side_change K) := ok_side_change D k_abort k_close k_read k_write
  have k_congestion : OkF P w K mg base "congestion" 1 ["endpoint"] (sp_congestion K) := ok_congestion D 
  have k_list_outstanding : OkF P w K mg base "list_outstanding" 2 ["endpoint"] (sp_list_outstanding K) := ok_list_outstanding D k_Part_end
  have k_show_ranges : OkF P w K mg base "show_ranges" 2 ["endpoint"] (sp_show_ranges K) := ok_show_ranges D k_Endpoint_early_ranges
  have k_status : OkF P w K mg base "status" 2 ["link", "endpoint"] (sp_status K) := ok_status D k_Endpoint_in_flight k_Endpoint_shown_state k_Link_window_of
  have k_totals : OkF P w K mg base "totals" 1 ["endpoint"] (sp_totals K) := ok_totals D 
  have k_side_question : OkF P w K mg base "side_question" 3 ["link", "operation", "side"] (sp_side_question K) := ok_side_question D k_congestion k_list_outstanding k_show_ranges k_status k_totals
  have k_statistics : OkF P w K mg base "statistics" 1 ["link"] (sp_statistics K) := ok_statistics D 
  have k_deed : OkF P w K mg base "deed" 15 ["link", "operation", "numbers", "some"] (sp_deed K) := ok_deed D k_clock_deed k_connect k_list_segments k_segment_deed k_side_change k_side_question k_statistics
  have k_Endpoint_init : OkI P w K mg base "Endpoint" 1 ["self", "side", "settings"] (sp_Endpoint_init K) := ok_Endpoint_init D 
  have k_Link_init : OkI P w K mg base "Link" 3 ["self", "settings"] (sp_Link_init K) := ok_Link_init D k_Endpoint_init
  have k_Settings_init : OkI P w K mg base "Settings" 1 ["self", "segment_size", "buffer", "timeout", "attempts", "initials"] (sp_Settings_init K) := ok_Settings_init D 
  have k_made_link : OkF P w K mg base "made_link" 5 ["numbers"] (sp_made_link K) := ok_made_link D k_Link_init k_Settings_init
  exact ok_answers D k_deed k_made_link F
end
/-- like walk_spec, the written part told by what the top says -/
theorem walk_specX {r : PySem.W.OpenSpec} {k : Nat} {q : Program} {loose : List Str} {XP : (Str → Option Value) → Heap → Prop} {YP : World → Heap → Prop} {d : DefRec} {CX : CXT} {ps : List Str}
    (hwell : r.wellSaid = true) (hdf : d.params.defaults = []) (hlen : r.args.length = ps.length) (hr : Room k callerA)
    (F : ∀ (w : World) (mg : Str → Option Value) (fa : Addr) (h : Heap), YP w h → h.Ns mainGlobals mg → mg d.name = some (.ref fa) →
      ∃ (K : PySem.W.Frag) (fd : FuncData) (sp : Sp), K.In h ∧ (∀ (s : Shared) (us : List Value), us.length = ps.length → BindsTo s fd ⟨us, []⟩ (ps.zip us)) ∧
        (∀ base : Heap, K.In base → base.Ns mainGlobals mg → FnOk r.prog w K mg base CX k fa fd ps sp) ∧
        ∀ (H : Hp) (xs : List V) (a : PySem.W.Codec.denoteAll r.args), OnlyF H → PySem.W.Codec.withinAll r.args a = true → PySem.W.Codec.app r.args r.asked a = true → DwAll K H xs (PySem.W.Codec.encAll r.args a) →
          sp xs H (fun v H' => Dw K H' v (r.ret.enc (PySem.W.Codec.app r.args r.f a))) fun _ _ _ => False)
    (hCX : ∀ (H : Hp) (s : Shared) (e : Value) (s' : Shared), CX [] H s (fun _ _ _ => False) e s' → False) :
    PySem.W.WalkOS q loose XP YP r d [] (fun f vs => PySem.call f vs) := by
  intro w s₀ s₁ mg mb G Y fa o pm cd doc dV kV ho hd hcd hD hmg hg args vals as hpre hlay hrd hwl hlo
  obtain ⟨a, e1, e2⟩ := PySem.W.os_pre_some hpre
  obtain ⟨e3, hwi⟩ := PySem.W.Codec.encAll_of_decAll r.args args a e1
  subst e3
  obtain ⟨K, fd, sp, KX, hb, hF, hsp⟩ := F w mg fa _ Y G.T.g hmg
  refine PySem.W.enter_call (codeAny_mono (spec_call (R := []) (cl := classAt s₀.heap) (d0 := r.ret.enc (PySem.W.Codec.app r.args r.f a)) KX G.T.g G.T.b G.T.builtins G.T.nolimit hg hwl (pl_encAll _ _) (layable_weight hlay) hr hF hb (by rw [encAll_len]; exact hlen)
    (fun H xs hO hS => hsp H xs a hO hwi e2 hS) fun H e s' => hCX H s₁ e s') fun r' s' hq => ?_)
  obtain ⟨u, as', rfl, h1, h2, h3, h4⟩ := hq
  exact ⟨.inl ⟨u, _, as', rfl, fun _ => rfl, h1, (PySem.W.OpenSpec.post_iff hwell hwi _ _).mpr rfl, fun z => Bool.noConfusion (show false = true from z)⟩, h2, h3, h4⟩
end Ws
set_option Elab.async false
set_option linter.all false
set_option maxRecDepth 100000
set_option maxHeartbeats 8000000
namespace Ws
open PySem PySem.Spec PyProof.Rows L2 Wt PySem.W PySem.Calls
/-- the plain law: what the mirror answers is what is due -/
def Law : Prop := ∀ l : List Int, PyKp421.answers_asked l = true → ansM l.length none l = some (PyKp421.answers l)
theorem short_of {l : List Int} (h : PyKp421.answers_asked l = true) : (PyKp421.answers l).length ≤ 10000000 := by
  unfold PyKp421.answers_asked at h
  split at h
  · cases h
  · exact of_decide_eq_true (Bool.and_eq_true_iff.mp h).2
theorem row_holds (law : Law) : PySem.Challenge.rw_wholestream_s01_answers.Holds := by
  refine HandSHeadRun.head_spec (r := PySem.Challenge.rw_wholestream_s01_answers) (q := Wh.qv) (H := Wh.hk) (ob := Wh.ob) (M := 6000) (loose := Wh.loose) (d := HandSHeadRun.topDef PySem.Challenge.rw_wholestream_s01_answers.prog 105) (kwd := []) Wh.ob_eq
    (by kernel_rfl) (fun s => by kernel_rfl) Wh.run (by kernel_rfl) (by kernel_rfl) (by kernel_rfl) os_shapes Wh.look_said (by decide +kernel) Wh.look_bare ?hw ?hc
  case hw => exact ⟨[.list [.int 1]], by decide +kernel, by decide +kernel⟩
  case hc =>
    refine walk_specX (r := PySem.Challenge.rw_wholestream_s01_answers) (k := 16) (CX := L2.CX0) (ps := ["calls"]) Wh.look_said (by kernel_rfl) rfl ⟨rfl, by decide, by decide⟩ ?F (fun _ _ _ _ z => z)
    intro w mg fa h Y G hmg0
    obtain ⟨K, KX, c⟩ := Y
    have c1 := congrArg Prod.fst c
    have c2 := congrArg Prod.snd c
    have hmg : mg ("answers" : PySem.Str) = some (.ref fa) := by
      have e : (HandSHeadRun.topDef PySem.Challenge.rw_wholestream_s01_answers.prog 105).name = ("answers" : PySem.Str) := by kernel_rfl
      rw [← e]
      exact hmg0
    have TB : Tabs K := tabs_ok c1
    have D : DefsOk K mg := defs_ok KX G c2
    have e := hmg.symm.trans D.g_answers
    cases e
    obtain ⟨fd, F⟩ := D.d_answers
    have b := FunD.bindsA (ps := ["calls"]) F fun _ _ _ _ _ _ us hl => match us, hl with | [_], _ => rfl
    refine ⟨K, fd, sp_answers K, KX, b, fun base _ _ => ok_all D F, fun H xs a hO hwi hask hx => ?_⟩
    cases hx with
    | cons h1 h2 =>
      cases h2
      cases h1 with
      | lst hs ha =>
        have e := L2.ints_dw a.1 _ ha
        subst e
        exact ⟨_, a.1, PyKp421.answers a.1, rfl, TB, hs, short_of hask, law a.1 hask, fun H' q hq => .lst (L2.SqL.of hq) (L2.dw_ints _)⟩
end Ws
set_option Elab.async false
set_option linter.all false
set_option maxRecDepth 100000
set_option maxHeartbeats 2000000
/-! The plain law: the mirror's records over the specification's. -/
namespace Ws
open Kp421 (Segment Outstanding Phase Settings Endpoint Link)
def castL (l : List Nat) : List Int := l.map fun (x : Nat) => (x : Int)
def pair (b : Nat × Nat) : Int × Int := ((b.1 : Int), (b.2 : Int))
def pairs (l : List (Nat × Nat)) : List (Int × Int) := l.map pair
def flg (p : Outstanding) : Int := if p.syn = true then 1 else if p.fin = true then 2 else 0
def prt (p : Outstanding) : MPart := ⟨p.position, flg p, castL p.payload, p.sentAt, p.transmissions, p.received⟩
def phN : Phase → Int
  | .closed => 0
  | .listening => 1
  | .synSent => 2
  | .synReceived => 3
  | .established => 4
  | .failed => 8
def fpN : Option Nat → Int
  | none => -1
  | some p => p
def smN : Option (Nat × Nat) → Int
  | none => 0
  | some p => p.1
def vaN : Option (Nat × Nat) → Int
  | none => 0
  | some p => p.2
def tmN (t : Option Nat) : Option Int := t.map fun (x : Nat) => (x : Int)
def sg (g : Segment) : MSeg := ⟨g.sender, Kp421.flagsOf g, g.sequence, castL g.payload, g.window, g.ack, pairs g.blocks⟩
def embN (ini : List Int) (L : Link) : MNet := ⟨L.settings.segmentSize, L.settings.buffer, L.settings.timeout, L.settings.attempts, ini, L.now, L.network.map sg, L.sentCount, L.deliveredCount, L.lostCount⟩
def embE (i : Bool) (e : Endpoint) (em : List (Int × Int)) : MEnd :=
  ⟨sideOf i, e.initial, phN e.phase, e.acknowledged, e.nextPosition, castL e.unsent, e.outstanding.map prt, e.closeRequested, e.finSent, e.peerInitial, e.expected, castL e.readable, em, fpN e.finPosition, Kp421.finReceived e, e.peerWindow, e.congestionWindow, e.threshold, e.timeout, tmN e.timer,
    e.duplicateAcks, e.retransmissions, e.roundTrip.isSome, smN e.roundTrip, vaN e.roundTrip, (e.written.length : Int), (e.consumed.length : Int)⟩
def Pm (e : Endpoint) (em : List (Int × Int)) : Prop := em.Perm (pairs e.early)
/-! ### numbers -/
theorem seq_eq (i p : Nat) : seqOf (i : Int) (p : Int) = (Kp421.sequenceOf i p : Int) := by
  unfold seqOf Kp421.sequenceOf Kp421.sequenceModulus
  omega
theorem pos_some {i r s p : Nat} (h : Kp421.positionOf i r s = some p) : posOf (i : Int) (s : Int) (r : Int) = (p : Int) := by
  unfold Kp421.positionOf Kp421.sequenceOf Kp421.sequenceModulus at h
  unfold posOf
  simp only at h
  split at h
  · have e := Option.some.inj h
    rw [if_pos (by omega)]
    omega
  · split at h
    · have e := Option.some.inj h
      rw [if_neg (by omega)]
      omega
    · cases h
theorem pos_none {i r s : Nat} (h : Kp421.positionOf i r s = none) : posOf (i : Int) (s : Int) (r : Int) < 0 := by
  unfold Kp421.positionOf Kp421.sequenceOf Kp421.sequenceModulus at h
  unfold posOf
  simp only at h
  split at h
  · cases h
  · split at h
    · cases h
    · rw [if_neg (by omega)]
      omega
/-- small positions come back -/
theorem pos_back {i r p : Nat} (h1 : p < 32000) (h2 : r < 32000) : Kp421.positionOf i r (Kp421.sequenceOf i p) = some p := by
  unfold Kp421.positionOf Kp421.sequenceOf Kp421.sequenceModulus
  simp only
  split
  · exact congrArg some (by omega)
  · rw [if_pos (by omega)]
    exact congrArg some (by omega)
theorem pos_back1 {i r p : Nat} (h1 : p < 32000) (h2 : r < 32000) : Kp421.positionOf i r (Kp421.sequenceOf i p + 1) = some (p + 1) := by
  unfold Kp421.positionOf Kp421.sequenceOf Kp421.sequenceModulus
  simp only
  split
  · exact congrArg some (by omega)
  · rw [if_pos (by omega)]
    exact congrArg some (by omega)
theorem pmax_nat (a b : Nat) : pmax (a : Int) (b : Int) = ((max a b : Nat) : Int) := by
  unfold pmax
  split <;> omega
theorem pmin_nat (a b : Nat) : pmin (a : Int) (b : Int) = ((min a b : Nat) : Int) := by
  unfold pmin
  split <;> omega
/-! ### lists -/
theorem ints_len (l : List Nat) : (castL l).length = l.length := List.length_map ..
theorem ints_take (l : List Nat) (k : Nat) : (castL l).take k = castL (l.take k) := (List.map_take ..).symm
theorem ints_drop (l : List Nat) (k : Nat) : (castL l).drop k = castL (l.drop k) := (List.map_drop ..).symm
theorem ints_app (l r : List Nat) : castL l ++ castL r = castL (l ++ r) := (List.map_append ..).symm
theorem ints_nil {l : List Nat} : castL l = [] ↔ l = [] := List.map_eq_nil_iff
/-! ### flags -/
def fl4 (a b c d : Bool) : Nat := (if a then 1 else 0) + (if b then 2 else 0) + (if c then 4 else 0) + (if d then 8 else 0)
theorem bits : ∀ a b c d : Bool, (!decide (band (fl4 a b c d : Int) 1 = 0)) = a ∧ (!decide (band (fl4 a b c d : Int) 2 = 0)) = b ∧ (!decide (band (fl4 a b c d : Int) 4 = 0)) = c ∧ (!decide (band (fl4 a b c d : Int) 8 = 0)) = d := by decide
theorem has_syn (g : Segment) : (sg g).has 1 = g.syn := (bits g.syn g.fin g.reset g.hasAck).1
theorem has_fin (g : Segment) : (sg g).has 2 = g.fin := (bits g.syn g.fin g.reset g.hasAck).2.1
theorem has_rst (g : Segment) : (sg g).has 4 = g.reset := (bits g.syn g.fin g.reset g.hasAck).2.2.1
theorem has_ack (g : Segment) : (sg g).has 8 = g.hasAck := (bits g.syn g.fin g.reset g.hasAck).2.2.2
theorem size_eq (g : Segment) : (sg g).size = (g.size : Int) := by
  unfold MSeg.size Segment.size
  rw [has_syn, has_fin]
  show ((castL g.payload).length : Int) + b2n g.syn + b2n g.fin = _
  rw [ints_len]
  cases g.syn <;> cases g.fin <;> simp [b2n] <;> omega
/-! ### ranges -/
theorem sortI_of_sorted : ∀ {l : List Int}, l.Pairwise (· < ·) → sortI l = l
  | [], _ => rfl
  | x :: r, h => by
    obtain ⟨h1, h2⟩ := List.pairwise_cons.mp h
    show insI x (sortI r) = x :: r
    rw [sortI_of_sorted h2]
    cases r with
    | nil => rfl
    | cons y t =>
      simp only [insI]
      rw [if_pos (Int.le_of_lt (h1 y List.mem_cons_self))]
theorem insI_comm (x y : Int) : ∀ l : List Int, insI x (insI y l) = insI y (insI x l)
  | [] => by
    simp only [insI]
    by_cases h1 : x ≤ y
    · by_cases h2 : y ≤ x
      · rw [if_pos h1, if_pos h2, Int.le_antisymm h1 h2]
      · rw [if_pos h1, if_neg h2]
    · rw [if_neg h1, if_pos (by omega)]
  | z :: r => by
    have ih := insI_comm x y r
    by_cases h1 : x ≤ z
    · by_cases h2 : y ≤ z
      · simp only [insI, if_pos h1, if_pos h2]
        by_cases h3 : x ≤ y
        · by_cases h4 : y ≤ x
          · rw [if_pos h3, if_pos h4, Int.le_antisymm h3 h4]
          · rw [if_pos h3, if_neg h4]
            try simp only [insI, if_pos h2]
        · rw [if_neg h3, if_pos (by omega)]
          try simp only [insI, if_pos h1]
      · simp only [insI, if_pos h1, if_neg h2]
        have h5 : ¬ y ≤ x := by omega
        rw [if_neg h5]
    · by_cases h2 : y ≤ z
      · simp only [insI, if_neg h1, if_pos h2]
        have h5 : ¬ x ≤ y := by omega
        rw [if_neg h5]
      · simp only [insI, if_neg h1, if_neg h2]
        rw [ih]
theorem sortI_perm_eq {l r : List Int} (h : l.Perm r) : sortI l = sortI r := by
  induction h with
  | nil => rfl
  | cons x _ ih => exact congrArg (insI x) ih
  | swap x y l => exact insI_comm y x (sortI l)
  | trans _ _ a b => exact a.trans b
end Ws
set_option Elab.async false
set_option linter.all false
set_option maxRecDepth 100000
set_option maxHeartbeats 2000000
namespace Ws
open Kp421 (Segment Outstanding Phase Settings Endpoint Link)
def mg : Int × Int → List (Int × Int) → List (Int × Int)
  | q, [] => [q]
  | q, r :: more => if q.2 = r.1 then (q.1, r.2) :: more else q :: r :: more
theorem mg_head (q : Int × Int) : ∀ l, ∃ b t, mg q l = (q.1, b) :: t
  | [] => ⟨_, _, rfl⟩
  | r :: more => by
    by_cases h : q.2 = r.1
    · exact ⟨r.2, more, by simp [mg, h]⟩
    · exact ⟨q.2, r :: more, by simp [mg, h]⟩
theorem mg_mg (s x : Int) (l : List (Int × Int)) : mg (s, x) (mg (x, x + 1) l) = mg (s, x + 1) l := by
  cases l with
  | nil => simp [mg]
  | cons r more =>
    by_cases h : x + 1 = r.1
    · simp [mg, h]
    · simp [mg, h]
theorem mg_ne {s t x : Int} (h : t ≠ x) (l : List (Int × Int)) : mg (s, t) (mg (x, x + 1) l) = (s, t) :: mg (x, x + 1) l := by
  obtain ⟨b, r, e⟩ := mg_head (x, x + 1) l
  rw [e]
  simp [mg, h]
theorem ranges_cons (x : Nat × Nat) (r : List (Nat × Nat)) : pairs (Kp421.rangesOf (x :: r)) = mg ((x.1 : Int), (x.1 : Int) + 1) (pairs (Kp421.rangesOf r)) := by
  show pairs (match Kp421.rangesOf r with
    | [] => [(x.1, x.1 + 1)]
    | q :: more => if x.1 + 1 = q.1 then (x.1, q.2) :: more else (x.1, x.1 + 1) :: q :: more) = _
  cases Kp421.rangesOf r with
  | nil => rfl
  | cons q more =>
    show pairs (if x.1 + 1 = q.1 then (x.1, q.2) :: more else (x.1, x.1 + 1) :: q :: more) = if (x.1 : Int) + 1 = (q.1 : Int) then _ else _
    by_cases h : x.1 + 1 = q.1
    · rw [if_pos h, if_pos (by omega)]
      rfl
    · rw [if_neg h, if_neg (by omega)]
      rfl
theorem rg_fold : ∀ (l : List (Nat × Nat)) (init : List (Int × Int)) (s t : Int), (l.map fun x => (x.1 : Int)).foldl rgStep (init ++ [(s, t)]) = init ++ mg (s, t) (pairs (Kp421.rangesOf l))
  | [], init, s, t => rfl
  | x :: r, init, s, t => by
    rw [List.map_cons, List.foldl_cons, ranges_cons]
    have e : rgStep (init ++ [(s, t)]) (x.1 : Int) = if t = (x.1 : Int) then init ++ [(s, (x.1 : Int) + 1)] else (init ++ [(s, t)]) ++ [((x.1 : Int), (x.1 : Int) + 1)] := by
      unfold rgStep
      rw [List.getLast?_concat, List.dropLast_concat]
    rw [e]
    by_cases h : t = (x.1 : Int)
    · rw [if_pos h, rg_fold r, h, mg_mg]
    · rw [if_neg h, rg_fold r, mg_ne h, List.append_assoc]
      rfl
theorem rg_eq (l : List (Nat × Nat)) : rgOf (l.map fun x => (x.1 : Int)) = pairs (Kp421.rangesOf l) := by
  cases l with
  | nil => rfl
  | cons x r =>
    unfold rgOf
    rw [List.map_cons, List.foldl_cons, ranges_cons]
    exact rg_fold r [] (x.1 : Int) ((x.1 : Int) + 1)
def Srt (l : List (Nat × Nat)) : Prop := l.Pairwise fun x y => x.1 < y.1
theorem ranges_eq {i : Bool} {e : Endpoint} {em : List (Int × Int)} (h : Pm e em) (s : Srt e.early) : (embE i e em).ranges = pairs (Kp421.rangesOf e.early) := by
  show rgOf (sortI (em.map (·.1))) = _
  have p : (em.map (·.1)).Perm (e.early.map fun x => (x.1 : Int)) := by
    have := List.Perm.map (·.1) h
    unfold pairs at this
    rw [List.map_map] at this
    exact this
  rw [sortI_perm_eq p, sortI_of_sorted, rg_eq]
  rw [List.pairwise_map]
  exact s.imp fun h => by omega
/-! ### one endpoint looked at -/
def sd (i : Bool) : Nat := if i = true then 1 else 0
theorem side_eq (i : Bool) : sideOf i = (sd i : Int) := by cases i <;> rfl
def lk (i : Bool) (L : Link) (e o : Endpoint) : Link := { L with endpoints := if i = true then [o, e] else [e, o] }
section
variable {i : Bool} {L : Link} {e e' o : Endpoint}
theorem at_e : Kp421.endpointAt (lk i L e o) (sd i) = e := by cases i <;> rfl
theorem at_o : Kp421.endpointAt (lk i L e o) (sd (!i)) = o := by cases i <;> rfl
theorem set_e : Kp421.setEndpoint (lk i L e o) (sd i) e' = lk i L e' o := by cases i <;> rfl
theorem lk_swap : lk (!i) L o e = lk i L e o := by cases i <;> rfl
theorem lk_tx {s : Segment} : Kp421.transmit (lk i L e o) s = lk i (Kp421.transmit L s) e o := by
  by_cases h : L.network.length < Kp421.maxInFlight
  · unfold Kp421.transmit
    rw [if_pos (show (lk i L e o).network.length < Kp421.maxInFlight from h), if_pos h]
    rfl
  · unfold Kp421.transmit
    rw [if_neg (show ¬ (lk i L e o).network.length < Kp421.maxInFlight from h), if_neg h]
    rfl
theorem lk_set : (lk i L e o).settings = L.settings := rfl
theorem lk_now : (lk i L e o).now = L.now := rfl
theorem lk_net : (lk i L e o).network = L.network := rfl
end
theorem putSeg_eq (ini : List Int) (L : Link) (s : Segment) : putSeg (embN ini L) (sg s) = embN ini (Kp421.transmit L s) := by
  unfold putSeg Kp421.transmit Kp421.maxInFlight
  have h : ((embN ini L).segs.length : Int) = (L.network.length : Int) := by
    show (((L.network.map sg).length : Nat) : Int) = _
    rw [List.length_map]
  rw [h]
  by_cases c : L.network.length < 60
  · rw [if_pos (by omega), if_pos c]
    unfold embN
    simp only [List.map_append, List.map_cons, List.map_nil]
    rfl
  · rw [if_neg (by omega), if_neg c]
    rfl
theorem map_seq (i : Nat) (l : List (Nat × Nat)) : ((pairs l).map fun r => (seqOf (i : Int) r.1, seqOf (i : Int) r.2)) = pairs (l.map fun r => (Kp421.sequenceOf i r.1, Kp421.sequenceOf i r.2)) := by
  unfold pairs
  rw [List.map_map, List.map_map]
  refine List.map_congr_left fun x _ => ?_
  show (seqOf (i : Int) (x.1 : Int), seqOf (i : Int) (x.2 : Int)) = _
  rw [seq_eq, seq_eq]
  rfl
/-- a segment made -/
def fromS (c : Settings) (side : Nat) (e : Endpoint) (syn fin rst : Bool) (pos : Nat) (pl : List Nat) : Segment := { Kp421.segmentFrom c side e syn fin pos pl with reset := rst }
theorem fromS_f (c : Settings) (side : Nat) (e : Endpoint) (syn fin : Bool) (pos : Nat) (pl : List Nat) : fromS c side e syn fin false pos pl = Kp421.segmentFrom c side e syn fin pos pl := by
  unfold fromS Kp421.segmentFrom
  split <;> rfl
theorem win_eq {ini : List Int} {L : Link} {i : Bool} {e : Endpoint} {em : List (Int × Int)} (h : e.readable.length ≤ L.settings.buffer) : win (embN ini L) (embE i e em) = (Kp421.windowOf L.settings e : Int) := by
  unfold win Kp421.windowOf
  show (L.settings.buffer : Int) - ((castL e.readable).length : Int) = _
  rw [ints_len]
  omega
theorem mkSeg_eq {ini : List Int} {L : Link} {i : Bool} {e : Endpoint} {em : List (Int × Int)} (hp : Pm e em) (hs : Srt e.early) (hr : e.readable.length ≤ L.settings.buffer) (syn fin rst : Bool) (pos : Nat) (pl : List Nat) :
    mkSeg (embN ini L) (embE i e em) (fl4 syn fin rst false : Int) (pos : Int) (castL pl) = sg (fromS L.settings (sd i) e syn fin rst pos pl) := by
  unfold mkSeg fromS Kp421.segmentFrom
  have hw := win_eq (ini := ini) (i := i) (em := em) hr
  have he : ((embE i e em).expected = 0) = (e.expected = 0) := by
    show ((e.expected : Int) = 0) = _
    exact propext ⟨fun h => by omega, fun h => by omega⟩
  by_cases c : e.expected = 0
  · rw [if_pos (he ▸ c), if_pos c, hw]
    show (⟨sideOf i, (fl4 syn fin rst false : Int), seqOf (e.initial : Int) (pos : Int), castL pl, _, 0, []⟩ : MSeg) = _
    rw [side_eq, seq_eq]
    rfl
  · rw [if_neg (fun z => c (he ▸ z)), if_neg c, hw, ranges_eq hp hs]
    show (⟨sideOf i, (fl4 syn fin rst false : Int) + 8, seqOf (e.initial : Int) (pos : Int), castL pl, _, seqOf (e.peerInitial : Int) (e.expected : Int), _⟩ : MSeg) = _
    rw [side_eq, seq_eq, seq_eq]
    have hb : (((pairs (Kp421.rangesOf e.early)).take 3).map fun r => (seqOf (e.peerInitial : Int) r.1, seqOf (e.peerInitial : Int) r.2)) = pairs (Kp421.blocksOf e) := by
      unfold Kp421.blocksOf
      rw [← map_seq]
      unfold pairs
      rw [← List.map_take]
    have hb2 : (((pairs (Kp421.rangesOf e.early)).take 3).map fun r => (seqOf (embE i e em).peerInitial r.1, seqOf (embE i e em).peerInitial r.2)) = pairs (Kp421.blocksOf e) := hb
    rw [hb2]
    have hf : (fl4 syn fin rst false : Int) + 8 = ((fl4 syn fin rst true : Nat) : Int) := by cases syn <;> cases fin <;> cases rst <;> rfl
    rw [hf]
    rfl
end Ws
set_option Elab.async false
set_option linter.all false
set_option maxRecDepth 100000
set_option maxHeartbeats 2000000
namespace Ws
open Kp421 (Segment Outstanding Phase Settings Endpoint Link)
variable {B : Nat}
/-! ### what holds of an honest link -/
/-- bs stands in W at the position pos (positions count from 1) -/
def Str (W : List Nat) (pos : Nat) (bs : List Nat) : Prop := ∀ k v, bs[k]? = some v → 1 ≤ pos ∧ W[pos + k - 1]? = some v
structure PartG (now : Nat) (e : Endpoint) (p : Outstanding) : Prop where
  sent : p.sentAt ≤ now
  syn : p.syn = true → p.position = 0 ∧ p.payload = [] ∧ p.fin = false
  fin : p.fin = true → p.payload = [] ∧ p.position = e.written.length + 1 ∧ e.closeRequested = true
  str : Str e.written p.position p.payload
  size : 1 ≤ p.size
  le : p.position ≤ e.written.length + 2
def Chain : Nat → List Outstanding → Nat → Prop
  | a, [], b => a = b
  | a, p :: r, b => p.position = a ∧ Chain p.finish r b
def Cur (e : Endpoint) : Prop := match e.phase with
  | .closed => e.nextPosition = 0 ∧ e.acknowledged = 0 ∧ e.written = [] ∧ e.unsent = [] ∧ e.outstanding = [] ∧ e.closeRequested = false ∧ e.finSent = false
  | .listening => e.nextPosition = 0 ∧ e.acknowledged = 0 ∧ e.written = [] ∧ e.unsent = [] ∧ e.outstanding = [] ∧ e.closeRequested = false ∧ e.finSent = false
  | .synSent => e.nextPosition = 1 ∧ e.acknowledged = 0 ∧ e.unsent = e.written ∧ e.finSent = false ∧ ∃ p, e.outstanding = [p] ∧ p.syn = true
  | .synReceived => e.nextPosition = 1 ∧ e.acknowledged = 0 ∧ e.unsent = e.written ∧ e.finSent = false ∧ ∃ p, e.outstanding = [p] ∧ p.syn = true
  | .established => Chain e.acknowledged e.outstanding e.nextPosition ∧ 1 ≤ e.nextPosition ∧ ((e.finSent = true ∧ e.nextPosition = e.written.length + 2 ∧ e.unsent = [] ∧ e.closeRequested = true) ∨ (e.finSent = false ∧ e.nextPosition ≤ e.written.length + 1 ∧ e.unsent = e.written.drop (e.nextPosition - 1)))
  | .failed => e.nextPosition ≤ e.written.length + 2 ∧ e.unsent = [] ∧ e.outstanding = []
structure Loc (c : Settings) (now : Nat) (e : Endpoint) : Prop where
  ackle : e.acknowledged ≤ e.nextPosition
  cur : Cur e
  parts : ∀ p ∈ e.outstanding, PartG now e p
  held : Kp421.buffered e ≤ c.buffer
  rd : e.readable.length ≤ c.buffer
  cw1 : 1 ≤ e.congestionWindow
  cw2 : e.congestionWindow ≤ 10000
  ini : e.initial < 65536
/-- what e has received of o -/
structure Cross (e o : Endpoint) : Prop where
  pi : e.expected ≠ 0 → e.peerInitial = o.initial
  srt : Srt e.early
  ea : ∀ x ∈ e.early, e.expected ≤ x.1 ∧ 1 ≤ x.1 ∧ o.written[x.1 - 1]? = some x.2
  fp : ∀ p, e.finPosition = some p → p = o.written.length + 1 ∧ o.closeRequested = true
  ex : e.expected ≤ o.written.length + 1 ∨ (e.finPosition.isSome = true ∧ e.expected = o.written.length + 2)
structure SegG (e o : Endpoint) (g : Segment) : Prop where
  pos : ∃ pos, g.sequence = Kp421.sequenceOf e.initial pos ∧ pos ≤ e.written.length + 2 ∧ (g.syn = true → pos = 0 ∧ g.payload = [] ∧ g.fin = false) ∧ (g.fin = true → g.payload = [] ∧ pos = e.written.length + 1 ∧ e.closeRequested = true) ∧ Str e.written pos g.payload
  ack : g.hasAck = true → ∃ a, a ≤ o.written.length + 2 ∧ g.ack = Kp421.sequenceOf o.initial a
  blk : ∀ b ∈ g.blocks, ∃ x y, x ≤ o.written.length + 2 ∧ y ≤ o.written.length + 2 ∧ b = (Kp421.sequenceOf o.initial x, Kp421.sequenceOf o.initial y)
  bl : g.blocks.length ≤ 3
/-- the receiving side's bounds -/
structure Rcv (c : Settings) (e : Endpoint) : Prop where
  edge : ∀ x ∈ e.early, x.1 < e.expected + (c.buffer - e.readable.length)
  exq : e.phase = .synReceived ∨ e.phase = .established → e.expected ≠ 0
  pre : e.phase = .closed ∨ e.phase = .listening ∨ e.phase = .synSent → e.expected = 0 ∧ e.early = [] ∧ e.finPosition = none
structure Good (B : Nat) (i : Bool) (L : Link) (e o : Endpoint) : Prop where
  s1 : 1 ≤ L.settings.segmentSize
  s2 : L.settings.segmentSize ≤ 20
  b1 : 1 ≤ L.settings.buffer
  b2 : L.settings.buffer ≤ 200
  nl : L.network.length ≤ 60
  net : ∀ g ∈ L.network, (g.sender = sd i ∧ SegG e o g) ∨ (g.sender = sd (!i) ∧ SegG o e g)
  le : Loc L.settings L.now e
  lo : Loc L.settings L.now o
  ce : Cross e o
  co : Cross o e
  we : e.written.length ≤ 3840
  wo : o.written.length ≤ 3840
  re : Rcv L.settings e
  ro : Rcv L.settings o
  bw : e.written.length ≤ B
  bo : o.written.length ≤ B
theorem Good.swap {i : Bool} {L : Link} {e o : Endpoint} (G : Good B i L e o) : Good B (!i) L o e :=
  ⟨G.s1, G.s2, G.b1, G.b2, G.nl, fun g m => by rw [Bool.not_not]; exact (G.net g m).symm, G.lo, G.le, G.co, G.ce, G.wo, G.we, G.ro, G.re, G.bo, G.bw⟩
/-! ### what grows -/
structure Grow (e e' : Endpoint) : Prop where
  ini : e'.initial = e.initial
  wr : ∃ x, e'.written = e.written ++ x ∧ (e.closeRequested = true → x = [])
  cl : e.closeRequested = true → e'.closeRequested = true
theorem Grow.of {e e' : Endpoint} (h1 : e'.initial = e.initial := by rfl) (h2 : e'.written = e.written := by rfl) (h3 : e'.closeRequested = e.closeRequested := by rfl) : Grow e e' :=
  ⟨h1, ⟨[], by rw [h2, List.append_nil], fun _ => rfl⟩, fun h => h3.trans h⟩
theorem Grow.le {e e' : Endpoint} (g : Grow e e') : e.written.length ≤ e'.written.length := by
  obtain ⟨x, h, _⟩ := g.wr
  rw [h, List.length_append]
  omega
theorem Grow.at {e e' : Endpoint} (g : Grow e e') {k v : Nat} (h : e.written[k]? = some v) : e'.written[k]? = some v := by
  obtain ⟨x, hx, _⟩ := g.wr
  have hl := (List.getElem?_eq_some_iff.mp h).1
  rw [hx, List.getElem?_append_left hl]
  exact h
theorem Grow.same {e e' : Endpoint} (g : Grow e e') (h : e.closeRequested = true) : e'.written = e.written := by
  obtain ⟨x, hx, h2⟩ := g.wr
  rw [hx, h2 h, List.append_nil]
theorem Str.grow {e e' : Endpoint} {pos : Nat} {bs : List Nat} (g : Grow e e') (h : Str e.written pos bs) : Str e'.written pos bs := fun k v hk => ⟨(h k v hk).1, g.at (h k v hk).2⟩
theorem Str.nil (W : List Nat) (pos : Nat) : Str W pos [] := fun k v h => by simp at h
theorem Str.le {W bs : List Nat} {pos : Nat} (h : Str W pos bs) : bs = [] ∨ (1 ≤ pos ∧ pos + bs.length ≤ W.length + 1) := by
  rcases Nat.eq_zero_or_pos bs.length with z | z
  · exact .inl (List.length_eq_zero_iff.mp z)
  · have hk : bs[bs.length - 1]? = some bs[bs.length - 1] := List.getElem?_eq_getElem (by omega)
    obtain ⟨h1, h2⟩ := h _ _ hk
    have := (List.getElem?_eq_some_iff.mp h2).1
    exact .inr ⟨h1, by omega⟩
theorem PartG.grow {now now' : Nat} {e e' : Endpoint} {p : Outstanding} (g : Grow e e') (hn : now ≤ now') (h : PartG now e p) : PartG now' e' p := by
  have := g.le
  refine ⟨Nat.le_trans h.sent hn, h.syn, fun z => ?_, h.str.grow g, h.size, Nat.le_trans h.le (by omega)⟩
  obtain ⟨a, b, c⟩ := h.fin z
  exact ⟨a, by rw [g.same c]; exact b, g.cl c⟩
theorem SegG.grow {e e' o o' : Endpoint} {s : Segment} (g : Grow e e') (k : Grow o o') (h : SegG e o s) : SegG e' o' s := by
  have l1 := g.le
  have l2 := k.le
  refine ⟨?_, fun z => ?_, fun b m => ?_, h.bl⟩
  · obtain ⟨pos, h1, h2, h3, h4, h5⟩ := h.pos
    refine ⟨pos, by rw [g.ini]; exact h1, by omega, h3, fun z => ?_, h5.grow g⟩
    obtain ⟨a, b, c⟩ := h4 z
    exact ⟨a, by rw [g.same c]; exact b, g.cl c⟩
  · obtain ⟨a, h1, h2⟩ := h.ack z
    exact ⟨a, by omega, by rw [k.ini]; exact h2⟩
  · obtain ⟨x, y, h1, h2, h3⟩ := h.blk b m
    exact ⟨x, y, by omega, by omega, by rw [k.ini]; exact h3⟩
theorem Cross.grow {e o o' : Endpoint} (k : Grow o o') (h : Cross e o) : Cross e o' := by
  have l := k.le
  refine ⟨fun z => by rw [k.ini]; exact h.pi z, h.srt, fun x m => ⟨(h.ea x m).1, (h.ea x m).2.1, k.at (h.ea x m).2.2⟩, fun p hp => ?_, ?_⟩
  · obtain ⟨a, b⟩ := h.fp p hp
    exact ⟨by rw [k.same b]; exact a, k.cl b⟩
  · rcases h.ex with z | ⟨z1, z2⟩
    · exact .inl (by omega)
    · cases hf : e.finPosition with
      | none => rw [hf] at z1; cases z1
      | some p =>
        obtain ⟨a, b⟩ := h.fp p hf
        exact .inr ⟨rfl, by rw [k.same b]; exact z2⟩
/-- the receiving side's own -/
theorem Cross.rcv {e e' o : Endpoint} (h : Cross e o) (h1 : e'.expected = e.expected := by rfl) (h2 : e'.peerInitial = e.peerInitial := by rfl) (h3 : e'.early = e.early := by rfl) (h4 : e'.finPosition = e.finPosition := by rfl) : Cross e' o :=
  ⟨by rw [h1, h2]; exact h.pi, by rw [h3]; exact h.srt, by rw [h1, h3]; exact h.ea, by rw [h4]; exact h.fp, by rw [h1, h4]; exact h.ex⟩
/-- another endpoint e' in e's place -/
theorem Good.put {i : Bool} {L L' : Link} {e e' o : Endpoint} (G : Good B i L e o) (g : Grow e e') (l : Loc L.settings L.now e') (c : Cross e' o) (w : e'.written.length ≤ 3840) (hr : Rcv L.settings e → Rcv L.settings e' := by exact fun h => ⟨h.edge, h.exq, h.pre⟩) (hb : e.written.length ≤ B → e'.written.length ≤ B := by exact fun h => h) (h1 : L'.settings = L.settings := by rfl) (h2 : L'.now = L.now := by rfl) (h3 : L'.network = L.network := by rfl) : Good B i L' e' o :=
  ⟨by rw [h1]; exact G.s1, by rw [h1]; exact G.s2, by rw [h1]; exact G.b1, by rw [h1]; exact G.b2, by rw [h3]; exact G.nl, fun s m => by
    rw [h3] at m
    exact (G.net s m).imp (fun z => ⟨z.1, z.2.grow g .of⟩) (fun z => ⟨z.1, z.2.grow .of g⟩), by rw [h1, h2]; exact l, by rw [h1, h2]; exact G.lo, c, G.co.grow g, w, G.wo, by rw [h1]; exact hr G.re, by rw [h1]; exact G.ro, hb G.bw, G.bo⟩
/-! ### consequences -/
theorem next_le {c : Settings} {now : Nat} {e : Endpoint} (l : Loc c now e) : e.nextPosition ≤ e.written.length + 2 := by
  have h := l.cur
  unfold Cur at h
  split at h
  · omega
  · omega
  · omega
  · omega
  · rcases h.2.2 with ⟨_, z, _⟩ | ⟨_, z, _⟩ <;> omega
  · omega
theorem srt_len : ∀ {l : List (Nat × Nat)} {lo hi : Nat}, Srt l → (∀ x ∈ l, lo ≤ x.1 ∧ x.1 < hi) → l.length ≤ hi - lo
  | [], _, _, _, _ => Nat.zero_le _
  | x :: r, lo, hi, s, h => by
    obtain ⟨s1, s2⟩ := List.pairwise_cons.mp s
    have h0 := h x List.mem_cons_self
    have := srt_len (l := r) (lo := x.1 + 1) (hi := hi) s2 fun y m => ⟨s1 y m, (h y (List.mem_cons_of_mem _ m)).2⟩
    rw [List.length_cons]
    omega
theorem Cross.key {e o : Endpoint} (h : Cross e o) {x : Nat × Nat} (m : x ∈ e.early) : 1 ≤ x.1 ∧ x.1 < o.written.length + 1 := by
  obtain ⟨_, h1, h2⟩ := h.ea x m
  have := (List.getElem?_eq_some_iff.mp h2).1
  omega
theorem Cross.len {e o : Endpoint} (h : Cross e o) : e.early.length ≤ o.written.length := by
  have := srt_len (lo := 1) (hi := o.written.length + 1) h.srt fun x m => h.key m
  omega
theorem Cross.exle {e o : Endpoint} (h : Cross e o) : e.expected ≤ o.written.length + 2 := by
  rcases h.ex with z | z <;> omega
theorem pm_len {e : Endpoint} {em : List (Int × Int)} (h : Pm e em) : em.length = e.early.length := by
  rw [h.length_eq]
  exact List.length_map ..
theorem ranges_in : ∀ {l : List (Nat × Nat)} {N : Nat}, (∀ x ∈ l, x.1 ≤ N) → ∀ r ∈ Kp421.rangesOf l, r.1 ≤ N ∧ r.2 ≤ N + 1
  | [], _, _, r, m => by cases m
  | x :: t, N, h, r, m => by
    have ih := ranges_in (l := t) (N := N) fun y my => h y (List.mem_cons_of_mem _ my)
    have hx := h x List.mem_cons_self
    unfold Kp421.rangesOf at m
    split at m
    · rw [List.mem_singleton.mp m]
      exact ⟨hx, by show x.1 + 1 ≤ _; omega⟩
    · rename_i q more eq
      rw [eq] at ih
      split at m
      · rcases List.mem_cons.mp m with z | z
        · rw [z]
          exact ⟨hx, (ih q List.mem_cons_self).2⟩
        · exact ih r (List.mem_cons_of_mem _ z)
      · rcases List.mem_cons.mp m with z | z
        · rw [z]
          exact ⟨hx, by show x.1 + 1 ≤ _; omega⟩
        · exact ih r z
/-! ### a segment goes out -/
theorem fromS_seg {i : Bool} {L : Link} {e o : Endpoint} (ce : Cross e o) {syn fin rst : Bool} {pos : Nat} {pl : List Nat} (h1 : pos ≤ e.written.length + 2) (h2 : syn = true → pos = 0 ∧ pl = [] ∧ fin = false) (h3 : fin = true → pl = [] ∧ pos = e.written.length + 1 ∧ e.closeRequested = true)
    (h4 : Str e.written pos pl) : SegG e o (fromS L.settings (sd i) e syn fin rst pos pl) ∧ (fromS L.settings (sd i) e syn fin rst pos pl).sender = sd i := by
  unfold fromS Kp421.segmentFrom
  split
  · exact ⟨⟨⟨pos, rfl, h1, h2, h3, h4⟩, fun z => (nomatch z), fun b m => (nomatch m), Nat.zero_le _⟩, rfl⟩
  · rename_i hx
    refine ⟨⟨⟨pos, rfl, h1, h2, h3, h4⟩, fun z => ⟨e.expected, ce.exle, ?_⟩, fun b m => ?_, ?_⟩, rfl⟩
    · show Kp421.sequenceOf e.peerInitial e.expected = _
      rw [ce.pi hx]
    · have m : b ∈ Kp421.blocksOf e := m
      unfold Kp421.blocksOf at m
      obtain ⟨r, mr, rfl⟩ := List.mem_map.mp m
      have mr := List.mem_of_mem_take mr
      have := ranges_in (N := o.written.length) (fun x mx => by have := ce.key mx; omega) r mr
      exact ⟨r.1, r.2, by omega, by omega, by rw [ce.pi hx]⟩
    · show (Kp421.blocksOf e).length ≤ 3
      unfold Kp421.blocksOf
      rw [List.length_map, List.length_take]
      omega
theorem fromS_good {i : Bool} {L : Link} {e o : Endpoint} (G : Good B i L e o) {syn fin rst : Bool} {pos : Nat} {pl : List Nat} (h1 : pos ≤ e.written.length + 2) (h2 : syn = true → pos = 0 ∧ pl = [] ∧ fin = false) (h3 : fin = true → pl = [] ∧ pos = e.written.length + 1 ∧ e.closeRequested = true)
    (h4 : Str e.written pos pl) : SegG e o (fromS L.settings (sd i) e syn fin rst pos pl) ∧ (fromS L.settings (sd i) e syn fin rst pos pl).sender = sd i := fromS_seg G.ce h1 h2 h3 h4
theorem Good.tx {i : Bool} {L : Link} {e o : Endpoint} (G : Good B i L e o) {s : Segment} (h : SegG e o s) (hs : s.sender = sd i) : Good B i (Kp421.transmit L s) e o := by
  unfold Kp421.transmit Kp421.maxInFlight
  split
  · rename_i c
    refine ⟨G.s1, G.s2, G.b1, G.b2, ?_, fun g m => ?_, G.le, G.lo, G.ce, G.co, G.we, G.wo, G.re, G.ro, G.bw, G.bo⟩
    · show (L.network ++ [s]).length ≤ 60
      rw [List.length_append, List.length_singleton]
      omega
    · rcases List.mem_append.mp m with m | m
      · exact G.net g m
      · rw [List.mem_singleton.mp m]
        exact .inl ⟨hs, h⟩
  · exact ⟨G.s1, G.s2, G.b1, G.b2, G.nl, G.net, G.le, G.lo, G.ce, G.co, G.we, G.wo, G.re, G.ro, G.bw, G.bo⟩
theorem tx_mir {i : Bool} {ini : List Int} {L : Link} {e o : Endpoint} {em : List (Int × Int)} (ce : Cross e o) (wo : o.written.length ≤ 3840) (rd : e.readable.length ≤ L.settings.buffer) (hp : Pm e em) (syn fin rst : Bool) (pos : Nat) (pl : List Nat) :
    transmit (embN ini L) (embE i e em) (fl4 syn fin rst false : Int) (pos : Int) (castL pl) = some (embN ini (Kp421.transmit L (fromS L.settings (sd i) e syn fin rst pos pl))) := by
  unfold transmit
  have hl : (embE i e em).early.length ≤ 10000 := by
    show em.length ≤ 10000
    have := ce.len
    rw [pm_len hp]
    omega
  rw [if_pos hl, mkSeg_eq hp ce.srt rd, putSeg_eq]
theorem tx_out {i : Bool} {ini : List Int} {L : Link} {e o : Endpoint} {em : List (Int × Int)} (G : Good B i L e o) (hp : Pm e em) (syn fin rst : Bool) (pos : Nat) (pl : List Nat) (h1 : pos ≤ e.written.length + 2) (h2 : syn = true → pos = 0 ∧ pl = [] ∧ fin = false) (h3 : fin = true → pl = [] ∧ pos = e.written.length + 1 ∧ e.closeRequested = true)
    (h4 : Str e.written pos pl) : transmit (embN ini L) (embE i e em) (fl4 syn fin rst false : Int) (pos : Int) (castL pl) = some (embN ini (Kp421.transmit L (fromS L.settings (sd i) e syn fin rst pos pl))) ∧ Good B i (Kp421.transmit L (fromS L.settings (sd i) e syn fin rst pos pl)) e o := by
  obtain ⟨g1, g2⟩ := fromS_good G (rst := rst) h1 h2 h3 h4
  exact ⟨tx_mir G.ce G.wo G.le.rd hp syn fin rst pos pl, G.tx g1 g2⟩
/-- an op's outcome; P: what more is known of it -/
def OutP (B : Nat) (i : Bool) (ini : List Int) (o : Endpoint) (P : Link → Endpoint → Prop) (r : Option (MNet × MEnd)) (l : Link) : Prop := ∃ L' e' em', r = some (embN ini L', embE i e' em') ∧ Pm e' em' ∧ Good B i L' e' o ∧ l = lk i L' e' o ∧ P L' e'
abbrev Out (B : Nat) (i : Bool) (ini : List Int) (o : Endpoint) (r : Option (MNet × MEnd)) (l : Link) : Prop := OutP B i ini o (fun _ _ => True) r l
theorem OutP.of {i : Bool} {ini : List Int} {o : Endpoint} {L : Link} {e : Endpoint} {em : List (Int × Int)} {P : Link → Endpoint → Prop} (G : Good B i L e o) (h : Pm e em) (p : P L e) : OutP B i ini o P (some (embN ini L, embE i e em)) (lk i L e o) := ⟨L, e, em, rfl, h, G, rfl, p⟩
theorem Out.of {i : Bool} {ini : List Int} {o : Endpoint} {L : Link} {e : Endpoint} {em : List (Int × Int)} (G : Good B i L e o) (h : Pm e em) : Out B i ini o (some (embN ini L, embE i e em)) (lk i L e o) := ⟨L, e, em, rfl, h, G, rfl, trivial⟩
theorem OutP.bind {i : Bool} {ini : List Int} {o : Endpoint} {P Q : Link → Endpoint → Prop} {r : Option (MNet × MEnd)} {l : Link} (h : OutP B i ini o P r l) {f : MNet × MEnd → Option (MNet × MEnd)} {g : Link → Link} (k : ∀ L e em, Good B i L e o → Pm e em → P L e → OutP B i ini o Q (f (embN ini L, embE i e em)) (g (lk i L e o))) : OutP B i ini o Q (r.bind f) (g l) := by
  obtain ⟨L, e, em, rfl, hp, G, rfl, p⟩ := h
  exact k L e em G hp p
theorem OutP.mono {i : Bool} {ini : List Int} {o : Endpoint} {P Q : Link → Endpoint → Prop} {r : Option (MNet × MEnd)} {l : Link} (h : OutP B i ini o P r l) (k : ∀ L e, P L e → Q L e) : OutP B i ini o Q r l := by
  obtain ⟨L, e, em, a, b, c, d, p⟩ := h
  exact ⟨L, e, em, a, b, c, d, k L e p⟩
theorem OutP.out {i : Bool} {ini : List Int} {o : Endpoint} {P : Link → Endpoint → Prop} {r : Option (MNet × MEnd)} {l : Link} (h : OutP B i ini o P r l) : Out B i ini o r l := h.mono fun _ _ _ => trivial
theorem tx_now {L : Link} {s : Segment} : (Kp421.transmit L s).now = L.now ∧ (Kp421.transmit L s).settings = L.settings := by
  unfold Kp421.transmit
  split <;> exact ⟨rfl, rfl⟩
theorem ack_out {i : Bool} {ini : List Int} {L : Link} {e o : Endpoint} {em : List (Int × Int)} (G : Good B i L e o) (hp : Pm e em) : OutP B i ini o (fun L' e' => e' = e ∧ L'.settings = L.settings ∧ L'.now = L.now) ((sendAck (embN ini L) (embE i e em)).bind fun n1 => some (n1, embE i e em)) (Kp421.sendAck (lk i L e o) (sd i)) := by
  obtain ⟨h1, h2⟩ := tx_out (ini := ini) G hp false false false e.nextPosition [] (next_le G.le) (fun z => (nomatch z)) (fun z => (nomatch z)) (.nil _ _)
  have h0 : sendAck (embN ini L) (embE i e em) = _ := h1
  rw [h0]
  refine ⟨_, e, em, rfl, hp, h2, ?_, rfl, tx_now.2, tx_now.1⟩
  unfold Kp421.sendAck
  rw [at_e, lk_tx, fromS_f]
  rfl
end Ws
set_option Elab.async false
set_option linter.all false
set_option maxRecDepth 100000
set_option maxHeartbeats 2000000
namespace Ws
open Kp421 (Segment Outstanding Phase Settings Endpoint Link)
variable {B : Nat}
/-! ### parts -/
theorem flg_fl4 {p : Outstanding} (h : p.syn = true → p.fin = false) : flg p = (fl4 p.syn p.fin false false : Int) := by
  unfold flg
  cases hs : p.syn with
  | true =>
    rw [h hs]
    rfl
  | false => cases p.fin <;> rfl
theorem fin_eq {p : Outstanding} (h : p.syn = true → p.fin = false) : (prt p).fin = (p.finish : Int) := by
  unfold MPart.fin Outstanding.finish Outstanding.size
  show (p.position : Int) + ((castL p.payload).length : Int) + b2n (decide (0 < flg p)) = _
  rw [ints_len]
  unfold flg
  cases hs : p.syn with
  | true =>
    rw [h hs]
    simp [b2n]
    omega
  | false =>
    cases p.fin
    · simp [b2n]
    · simp [b2n]
      omega
theorem PartG.sf {now : Nat} {e : Endpoint} {p : Outstanding} (h : PartG now e p) : p.syn = true → p.fin = false := fun z => (h.syn z).2.2
theorem chain_len : ∀ {ps : List Outstanding} {a b : Nat}, Chain a ps b → (∀ p ∈ ps, 1 ≤ p.size) → a + ps.length ≤ b
  | [], a, b, h, _ => by
    have : a = b := h
    simp [this]
  | p :: r, a, b, h, k => by
    have := chain_len h.2 fun q m => k q (List.mem_cons_of_mem _ m)
    have h1 : p.position = a := h.1
    have h2 := k p List.mem_cons_self
    have h3 : p.finish = p.position + p.size := rfl
    rw [List.length_cons]
    omega
theorem chain_app : ∀ {ps : List Outstanding} {a b : Nat} {p : Outstanding}, Chain a ps b → p.position = b → Chain a (ps ++ [p]) p.finish
  | [], a, b, p, h, k => ⟨by rw [k]; exact Eq.symm h, rfl⟩
  | q :: r, a, b, p, h, k => ⟨h.1, chain_app h.2 k⟩
/-- the chain, in every state -/
theorem loc_chain {c : Settings} {now : Nat} {e : Endpoint} (l : Loc c now e) : e.outstanding = [] ∨ Chain e.acknowledged e.outstanding e.nextPosition := by
  have h := l.cur
  unfold Cur at h
  split at h
  · exact .inl h.2.2.2.2.1
  · exact .inl h.2.2.2.2.1
  · obtain ⟨h1, h2, _, _, p, h3, h4⟩ := h
    have P := l.parts p (by rw [h3]; exact List.mem_cons_self)
    obtain ⟨a, b, c⟩ := P.syn h4
    refine .inr ?_
    rw [h1, h2, h3]
    exact ⟨a, by unfold Outstanding.finish Outstanding.size; rw [a, b, c, h4]; rfl⟩
  · obtain ⟨h1, h2, _, _, p, h3, h4⟩ := h
    have P := l.parts p (by rw [h3]; exact List.mem_cons_self)
    obtain ⟨a, b, c⟩ := P.syn h4
    refine .inr ?_
    rw [h1, h2, h3]
    exact ⟨a, by unfold Outstanding.finish Outstanding.size; rw [a, b, c, h4]; rfl⟩
  · exact .inr h.1
  · exact .inl h.2.2
theorem out_len {c : Settings} {now : Nat} {e : Endpoint} (l : Loc c now e) : e.outstanding.length ≤ e.written.length + 2 := by
  rcases loc_chain l with h | h
  · rw [h]
    exact Nat.zero_le _
  · have := chain_len h fun p m => (l.parts p m).size
    have := next_le l
    omega
/-! ### a new part -/
def preE (e : Endpoint) (fin : Bool) (pl : List Nat) : Endpoint := { e with unsent := e.unsent.drop pl.length, finSent := e.finSent || fin }
def newO (now : Nat) (e : Endpoint) (syn fin : Bool) (pl : List Nat) : Outstanding := ⟨e.nextPosition, syn, fin, pl, now, 1, false⟩
def sentE (now : Nat) (e : Endpoint) (syn fin : Bool) (pl : List Nat) : Endpoint :=
  { e with nextPosition := e.nextPosition + (newO now e syn fin pl).size, outstanding := e.outstanding ++ [newO now e syn fin pl], unsent := e.unsent.drop pl.length, finSent := e.finSent || fin, timer := match e.timer with
    | none => some (now + e.timeout)
    | some t => some t }
theorem sendNew_eq {i : Bool} {L : Link} {e o : Endpoint} (syn fin : Bool) (pl : List Nat) : Kp421.sendNew (lk i L e o) (sd i) syn fin pl = lk i (Kp421.transmit L (fromS L.settings (sd i) e syn fin false e.nextPosition pl)) (sentE L.now e syn fin pl) o := by
  unfold Kp421.sendNew
  rw [at_e, fromS_f]
  show Kp421.transmit (Kp421.setEndpoint (lk i L e o) (sd i) (sentE L.now e syn fin pl)) _ = _
  rw [set_e, lk_tx]
  rfl
theorem send_out' {i : Bool} {ini : List Int} {L : Link} {e o : Endpoint} {em : List (Int × Int)} (ce : Cross e o) (rd : e.readable.length ≤ L.settings.buffer) (ol : e.outstanding.length ≤ 10000) (hn : e.nextPosition ≤ e.written.length + 2) (hp : Pm e em) (syn fin : Bool) (pl : List Nat) (fl : Int) (hfl : fl = flg (newO L.now e syn fin pl))
    (h2 : syn = true → e.nextPosition = 0 ∧ pl = [] ∧ fin = false) (h3 : fin = true → pl = [] ∧ e.nextPosition = e.written.length + 1 ∧ e.closeRequested = true) (h4 : Str e.written e.nextPosition pl) (G' : Good B i L (sentE L.now e syn fin pl) o) :
    OutP B i ini o (fun L' e' => e' = sentE L.now e syn fin pl ∧ L'.settings = L.settings ∧ L'.now = L.now) (sendPart (embN ini L) (embE i (preE e fin pl) em) fl (castL pl)) (Kp421.sendNew (lk i L e o) (sd i) syn fin pl) := by
  have sf : syn = true → fin = false := fun z => (h2 z).2.2
  have t1 := tx_mir (i := i) (ini := ini) ce G'.wo rd hp syn fin false e.nextPosition pl
  have gs := fromS_seg (i := i) (L := L) ce (rst := false) hn h2 h3 h4
  rw [sendNew_eq]
  have G2 : Good B i (Kp421.transmit L (fromS L.settings (sd i) e syn fin false e.nextPosition pl)) (sentE L.now e syn fin pl) o := G'.tx (gs.1.grow .of .of) gs.2
  refine ⟨_, sentE L.now e syn fin pl, em, ?_, hp, G2, rfl, rfl, tx_now.2, tx_now.1⟩
  unfold sendPart
  have hl : (embE i (preE e fin pl) em).parts.length ≤ 10000 := by
    show (e.outstanding.map prt).length ≤ 10000
    rw [List.length_map]
    exact ol
  rw [if_pos hl]
  have en : newPart (embN ini L) (embE i (preE e fin pl) em) fl (castL pl) = prt (newO L.now e syn fin pl) := by
    rw [hfl]
    rfl
  rw [en]
  have ef : (prt (newO L.now e syn fin pl)).fin = ((e.nextPosition + (newO L.now e syn fin pl).size : Nat) : Int) := fin_eq sf
  have et : transmitPart (embN ini L) (addPart (embE i (preE e fin pl) em) (prt (newO L.now e syn fin pl))) (prt (newO L.now e syn fin pl)) = some (embN ini (Kp421.transmit L (fromS L.settings (sd i) e syn fin false e.nextPosition pl))) := by
    unfold transmitPart
    rw [← t1]
    show transmit _ _ (flg (newO L.now e syn fin pl)) (e.nextPosition : Int) (castL pl) = _
    rw [flg_fl4 sf]
    rfl
  rw [et]
  have nw : (Kp421.transmit L (fromS L.settings (sd i) e syn fin false e.nextPosition pl)).now = L.now := by
    unfold Kp421.transmit
    split <;> rfl
  show some (_, if (embE i (preE e fin pl) em).timer = none then _ else _) = _
  have ea : addPart (embE i (preE e fin pl) em) (prt (newO L.now e syn fin pl)) = { embE i (sentE L.now e syn fin pl) em with timer := tmN e.timer } := by
    unfold addPart
    rw [ef]
    unfold embE sentE
    simp only [List.map_append, List.map_cons, List.map_nil]
    rfl
  rw [ea]
  cases ht : e.timer with
  | none =>
    have h0 : (embE i (preE e fin pl) em).timer = none := by
      show tmN e.timer = none
      rw [ht]
      rfl
    rw [if_pos h0]
    unfold startTimer
    have e1 : (embN ini (Kp421.transmit L (fromS L.settings (sd i) e syn fin false e.nextPosition pl))).now = (L.now : Int) := congrArg Int.ofNat nw
    rw [e1]
    unfold embE sentE
    rw [ht]
    try rfl
  | some t =>
    have h0 : ¬ (embE i (preE e fin pl) em).timer = none := by
      show ¬ tmN e.timer = none
      rw [ht]
      exact fun z => nomatch z
    rw [if_neg h0]
    unfold embE sentE
    rw [ht]
    try rfl
theorem send_out {i : Bool} {ini : List Int} {L : Link} {e o : Endpoint} {em : List (Int × Int)} (G : Good B i L e o) (hp : Pm e em) (syn fin : Bool) (pl : List Nat) (fl : Int) (hfl : fl = flg (newO L.now e syn fin pl))
    (h2 : syn = true → e.nextPosition = 0 ∧ pl = [] ∧ fin = false) (h3 : fin = true → pl = [] ∧ e.nextPosition = e.written.length + 1 ∧ e.closeRequested = true) (h4 : Str e.written e.nextPosition pl) (G' : Good B i L (sentE L.now e syn fin pl) o) :
    OutP B i ini o (fun L' e' => e' = sentE L.now e syn fin pl ∧ L'.settings = L.settings ∧ L'.now = L.now) (sendPart (embN ini L) (embE i (preE e fin pl) em) fl (castL pl)) (Kp421.sendNew (lk i L e o) (sd i) syn fin pl) :=
  send_out' G.ce G.le.rd (by have := out_len G.le; have := G.we; omega) (next_le G.le) hp syn fin pl fl hfl h2 h3 h4 G'
theorem buf_app (e : Endpoint) (p : Outstanding) : (((e.outstanding ++ [p]).map fun o => o.payload.length).sum) = ((e.outstanding.map fun o => o.payload.length).sum) + p.payload.length := by
  rw [List.map_append, List.sum_append]
  simp
/-- bytes that are sent -/
theorem data_good {i : Bool} {L : Link} {e o : Endpoint} (G : Good B i L e o) (he : e.phase = .established) {k : Nat} (hk : 0 < k) (hu : e.unsent ≠ []) : Str e.written e.nextPosition (e.unsent.take k) ∧ Good B i L (sentE L.now e false false (e.unsent.take k)) o := by
  have c := G.le.cur
  unfold Cur at c
  rw [he] at c
  obtain ⟨c1, c2, c3⟩ := c
  rcases c3 with ⟨_, _, z, _⟩ | ⟨f0, f1, f2⟩
  · exact absurd z hu
  have ul : e.unsent.length = e.written.length - (e.nextPosition - 1) := by rw [f2, List.length_drop]
  have up : 0 < e.unsent.length := List.length_pos_iff.mpr hu
  have tl : (e.unsent.take k).length = min k e.unsent.length := List.length_take
  have hs : Str e.written e.nextPosition (e.unsent.take k) := fun j v hj => by
    refine ⟨c2, ?_⟩
    have hj2 : e.unsent[j]? = some v := by
      rw [List.getElem?_take] at hj
      split at hj
      · exact hj
      · cases hj
    rw [f2, List.getElem?_drop] at hj2
    rw [show e.nextPosition + j - 1 = e.nextPosition - 1 + j by omega]
    exact hj2
  have sz : (newO L.now e false false (e.unsent.take k)).size = (e.unsent.take k).length := rfl
  refine ⟨hs, G.put (e' := sentE L.now e false false (e.unsent.take k)) .of ?_ G.ce.rcv G.we⟩
  refine ⟨?_, ?_, fun p m => ?_, ?_, G.le.rd, G.le.cw1, G.le.cw2, G.le.ini⟩
  · show e.acknowledged ≤ e.nextPosition + _
    have := G.le.ackle
    omega
  · unfold Cur
    show match e.phase with
      | _ => _
    have hph : (sentE L.now e false false (e.unsent.take k)).phase = .established := he
    rw [hph]
    refine ⟨chain_app c1 rfl, ?_, .inr ⟨?_, ?_, ?_⟩⟩
    · show 1 ≤ e.nextPosition + _
      omega
    · show (e.finSent || false) = false
      rw [f0]
      rfl
    · show e.nextPosition + (newO L.now e false false (e.unsent.take k)).size ≤ e.written.length + 1
      rw [sz, tl]
      omega
    · show e.unsent.drop (e.unsent.take k).length = e.written.drop (e.nextPosition + (newO L.now e false false (e.unsent.take k)).size - 1)
      rw [sz]
      rw [show ∀ m, e.unsent.drop m = e.written.drop (e.nextPosition - 1 + m) from fun m => by rw [f2, List.drop_drop], tl]
      exact congrArg (fun z => e.written.drop z) (by omega)
  · rcases List.mem_append.mp m with m | m
    · exact (G.le.parts p m).grow .of (Nat.le_refl _)
    · rw [List.mem_singleton.mp m]
      refine ⟨Nat.le_refl _, fun z => (nomatch z), fun z => (nomatch z), hs, ?_, ?_⟩
      · show 1 ≤ (newO L.now e false false (e.unsent.take k)).size
        rw [sz, tl]
        omega
      · show e.nextPosition ≤ e.written.length + 2
        omega
  · show (e.unsent.drop (e.unsent.take k).length).length + ((e.outstanding ++ [_]).map fun (o : Outstanding) => o.payload.length).sum ≤ _
    rw [buf_app]
    have h := G.le.held
    unfold Kp421.buffered at h
    show _ + (_ + (e.unsent.take k).length) ≤ _
    rw [List.length_drop, tl]
    omega
/-- the FIN -/
theorem fin_good {i : Bool} {L : Link} {e o : Endpoint} (G : Good B i L e o) (he : e.phase = .established) (hu : e.unsent = []) (hc : e.closeRequested = true) (hf : e.finSent = false) : e.nextPosition = e.written.length + 1 ∧ Good B i L (sentE L.now e false true []) o := by
  have c := G.le.cur
  unfold Cur at c
  rw [he] at c
  obtain ⟨c1, c2, c3⟩ := c
  rcases c3 with ⟨z, _⟩ | ⟨f0, f1, f2⟩
  · rw [hf] at z
    cases z
  have hn : e.nextPosition = e.written.length + 1 := by
    have := congrArg List.length f2
    rw [hu, List.length_drop] at this
    simp at this
    omega
  refine ⟨hn, G.put (e' := sentE L.now e false true []) .of ?_ G.ce.rcv G.we⟩
  refine ⟨?_, ?_, fun p m => ?_, ?_, G.le.rd, G.le.cw1, G.le.cw2, G.le.ini⟩
  · show e.acknowledged ≤ e.nextPosition + _
    have := G.le.ackle
    omega
  · unfold Cur
    have hph : (sentE L.now e false true []).phase = .established := he
    rw [hph]
    refine ⟨chain_app c1 rfl, ?_, .inl ⟨?_, ?_, ?_, hc⟩⟩
    · show 1 ≤ e.nextPosition + _
      omega
    · show (e.finSent || true) = true
      rw [hf]
      rfl
    · show e.nextPosition + 1 = e.written.length + 2
      omega
    · show e.unsent.drop 0 = []
      rw [hu]
      rfl
  · rcases List.mem_append.mp m with m | m
    · exact (G.le.parts p m).grow .of (Nat.le_refl _)
    · rw [List.mem_singleton.mp m]
      refine ⟨Nat.le_refl _, fun z => (nomatch z), fun z => ⟨rfl, hn, hc⟩, .nil _ _, Nat.le_refl _, ?_⟩
      show e.nextPosition ≤ e.written.length + 2
      omega
  · show (e.unsent.drop 0).length + ((e.outstanding ++ [_]).map fun (o : Outstanding) => o.payload.length).sum ≤ _
    rw [buf_app]
    have h := G.le.held
    unfold Kp421.buffered at h
    show _ + (_ + 0) ≤ _
    rw [List.drop_zero]
    omega
end Ws
set_option Elab.async false
set_option linter.all false
set_option maxRecDepth 100000
set_option maxHeartbeats 2000000
namespace Ws
open Kp421 (Segment Outstanding Phase Settings Endpoint Link)
variable {B : Nat}
theorem infl_eq {i : Bool} {e : Endpoint} {em : List (Int × Int)} (h : e.acknowledged ≤ e.nextPosition) : (embE i e em).inFlight = (Kp421.inFlight e : Int) := by
  unfold MEnd.inFlight Kp421.inFlight
  show (e.nextPosition : Int) - (e.acknowledged : Int) = _
  omega
theorem allow_eq {i : Bool} {e : Endpoint} {em : List (Int × Int)} (h : e.acknowledged ≤ e.nextPosition) : allowance (embE i e em) = (Kp421.allowance e : Int) := by
  unfold allowance Kp421.allowance
  rw [infl_eq h]
  show pmax 0 (pmin (e.congestionWindow : Int) (e.peerWindow : Int) - _) = _
  rw [pmin_nat]
  unfold pmax
  split <;> omega
theorem un_nil {i : Bool} {e : Endpoint} {em : List (Int × Int)} : (embE i e em).unsent = [] ↔ e.unsent = [] := ints_nil
theorem ps_nil {i : Bool} {e : Endpoint} {em : List (Int × Int)} : (embE i e em).parts = [] ↔ e.outstanding = [] := List.map_eq_nil_iff
theorem tm_nil {i : Bool} {e : Endpoint} {em : List (Int × Int)} : (embE i e em).timer = none ↔ e.timer = none := by
  show tmN e.timer = none ↔ _
  unfold tmN
  exact Option.map_eq_none_iff
theorem state_est {i : Bool} {e : Endpoint} {em : List (Int × Int)} : (embE i e em).state = 4 ↔ e.phase = .established := by
  show phN e.phase = 4 ↔ _
  cases e.phase <;> simp [phN]
/-- bytes go out -/
theorem bytes_out {i : Bool} {ini : List Int} {L : Link} {e o : Endpoint} {em : List (Int × Int)} (G : Good B i L e o) (hp : Pm e em) (he : e.phase = .established) {k : Nat} (hk : 0 < k) (hu : e.unsent ≠ []) {many : Int} (hm : many = ((min k e.unsent.length : Nat) : Int)) :
    OutP B i ini o (fun L' e' => e' = sentE L.now e false false (e.unsent.take k) ∧ L'.settings = L.settings ∧ L'.now = L.now) (sendBytes (embN ini L) (embE i e em) many) (Kp421.sendNew (lk i L e o) (sd i) false false (e.unsent.take k)) := by
  obtain ⟨h1, h2⟩ := data_good G he hk hu
  have := send_out (ini := ini) G hp false false (e.unsent.take k) 0 rfl (fun z => nomatch z) (fun z => nomatch z) h1 h2
  have e1 : sendBytes (embN ini L) (embE i e em) many = sendPart (embN ini L) (embE i (preE e false (e.unsent.take k)) em) 0 (castL (e.unsent.take k)) := by
    unfold sendBytes
    have tn : many.toNat = min k e.unsent.length := by rw [hm]; exact Int.toNat_natCast _
    rw [if_pos (by rw [hm]; omega), tn]
    show sendPart _ { embE i e em with unsent := (castL e.unsent).drop _ } 0 ((castL e.unsent).take _) = _
    rw [ints_drop, ints_take]
    have t1 : e.unsent.take (min k e.unsent.length) = e.unsent.take k := by
      rcases Nat.le_total k e.unsent.length with q | q
      · rw [Nat.min_eq_left q]
      · rw [Nat.min_eq_right q, List.take_length, List.take_of_length_le q]
    rw [t1]
    have l1 : (e.unsent.take k).length = min k e.unsent.length := List.length_take
    unfold preE
    rw [l1, Bool.or_false]
    rfl
  rw [e1]
  exact this
/-- the end of output -/
theorem end_out {i : Bool} {ini : List Int} {L : Link} {e o : Endpoint} {em : List (Int × Int)} (G : Good B i L e o) (hp : Pm e em) (he : e.phase = .established) (hc : ¬ (e.unsent ≠ [] ∧ 0 < Kp421.allowance e)) (k : Nat) :
    Out B i ini o (outEnd (embN ini L) (embE i e em)) (Kp421.flush (sd i) (k + 1) (lk i L e o)) := by
  unfold Kp421.flush outEnd
  simp only [at_e]
  rw [if_neg (c := e.phase ≠ .established) (fun z => z he), if_neg (c := e.unsent ≠ [] ∧ 0 < Kp421.allowance e) hc]
  by_cases hu : e.unsent = []
  · rw [if_pos (c := (embE i e em).unsent = []) (un_nil.mpr hu)]
    by_cases c : e.closeRequested = true ∧ e.finSent = false
    · rw [if_pos (c := (embE i e em).closing = true ∧ (embE i e em).finSent = false) c, if_pos (c := e.unsent = [] ∧ e.closeRequested = true ∧ e.finSent = false) ⟨hu, c⟩]
      obtain ⟨h1, h2⟩ := fin_good G he hu c.1 c.2
      have := send_out (ini := ini) G hp false true [] 2 rfl (fun z => nomatch z) (fun _ => ⟨rfl, h1, c.1⟩) (.nil _ _) h2
      have e1 : embE i (preE e true []) em = { embE i e em with finSent := true } := by
        unfold preE embE
        simp only [List.length_nil, List.drop_zero, Bool.or_true]
        rfl
      rw [e1] at this
      exact this.out
    · rw [if_neg (c := (embE i e em).closing = true ∧ (embE i e em).finSent = false) c, if_neg (c := e.unsent = [] ∧ e.closeRequested = true ∧ e.finSent = false) (fun z => c z.2), if_neg (c := e.unsent ≠ [] ∧ e.outstanding = [] ∧ e.timer = none) (fun z => z.1 hu)]
      exact Out.of G hp
  · rw [if_neg (c := (embE i e em).unsent = []) (fun z => hu (un_nil.mp z)), if_neg (c := e.unsent = [] ∧ e.closeRequested = true ∧ e.finSent = false) (fun z => hu z.1)]
    by_cases c : e.outstanding = [] ∧ e.timer = none
    · rw [if_pos (c := (embE i e em).parts = [] ∧ (embE i e em).timer = none) ⟨ps_nil.mpr c.1, tm_nil.mpr c.2⟩, if_pos (c := e.unsent ≠ [] ∧ e.outstanding = [] ∧ e.timer = none) ⟨hu, c⟩, set_e, lk_now]
      have G' : Good B i L { e with timer := some (L.now + e.timeout) } o := G.put .of ⟨G.le.ackle, G.le.cur, fun p m => (G.le.parts p m).grow .of (Nat.le_refl _), G.le.held, G.le.rd, G.le.cw1, G.le.cw2, G.le.ini⟩ G.ce.rcv G.we
      exact ⟨L, { e with timer := some (L.now + e.timeout) }, em, rfl, hp, G', rfl, trivial⟩
    · rw [if_neg (c := (embE i e em).parts = [] ∧ (embE i e em).timer = none) (fun z => c ⟨ps_nil.mp z.1, tm_nil.mp z.2⟩), if_neg (c := e.unsent ≠ [] ∧ e.outstanding = [] ∧ e.timer = none) (fun z => c z.2)]
      exact Out.of G hp
theorem flush_out {i : Bool} {ini : List Int} {o : Endpoint} : ∀ (f k : Nat) {L : Link} {e : Endpoint} {em : List (Int × Int)}, Good B i L e o → Pm e em → e.phase = .established → e.unsent.length ≤ f → f + 1 ≤ k →
    Out B i ini o ((outLoop f (embN ini L) (embE i e em)).bind fun r => outEnd r.1 r.2) (Kp421.flush (sd i) k (lk i L e o))
  | 0, k, L, e, em, G, hp, he, hl, hk => by
    have hu : e.unsent = [] := List.length_eq_zero_iff.mp (by omega)
    obtain ⟨k, rfl⟩ : ∃ k', k = k' + 1 := ⟨k - 1, by omega⟩
    unfold outLoop
    rw [if_pos (c := (embE i e em).unsent = []) (un_nil.mpr hu)]
    exact end_out G hp he (fun z => z.1 hu) k
  | f + 1, k, L, e, em, G, hp, he, hl, hk => by
    obtain ⟨k, rfl⟩ : ∃ k', k = k' + 1 := ⟨k - 1, by omega⟩
    unfold outLoop
    have al := allow_eq (i := i) (em := em) G.le.ackle
    by_cases c : e.unsent ≠ [] ∧ 0 < Kp421.allowance e
    · rw [if_pos (c := (embE i e em).unsent ≠ [] ∧ 0 < allowance (embE i e em)) ⟨fun z => c.1 (un_nil.mp z), by omega⟩, al]
      have hs := G.s1
      have hb := bytes_out (ini := ini) G hp he (k := min L.settings.segmentSize (Kp421.allowance e)) (by omega) c.1
        (many := pmin (pmin (embN ini L).size (Kp421.allowance e : Int)) ((embE i e em).unsent.length : Int)) (by
          show pmin (pmin (L.settings.segmentSize : Int) (Kp421.allowance e : Int)) (((castL e.unsent).length : Nat) : Int) = _
          rw [ints_len, pmin_nat, pmin_nat])
      have ef : Kp421.flush (sd i) (k + 1) (lk i L e o) = Kp421.flush (sd i) k (Kp421.sendNew (lk i L e o) (sd i) false false (e.unsent.take (min L.settings.segmentSize (Kp421.allowance e)))) := by
        conv => lhs; unfold Kp421.flush
        simp only [at_e, lk_set]
        rw [if_neg (c := e.phase ≠ .established) (fun z => z he), if_pos (c := e.unsent ≠ [] ∧ 0 < Kp421.allowance e) c]
      rw [ef, Option.bind_assoc]
      refine hb.bind (g := Kp421.flush (sd i) k) fun L' e' em' G' hp' ⟨h1, h2, h3⟩ => ?_
      refine flush_out f k G' hp' (by rw [h1]; exact he) ?_ (by omega)
      rw [h1]
      show (e.unsent.drop (e.unsent.take _).length).length ≤ f
      rw [List.length_drop, List.length_take]
      have : 0 < e.unsent.length := List.length_pos_iff.mpr c.1
      have := c.2
      omega
    · rw [if_neg (c := (embE i e em).unsent ≠ [] ∧ 0 < allowance (embE i e em)) (fun z => c ⟨fun y => z.1 (un_nil.mpr y), by omega⟩)]
      exact end_out G hp he c k
theorem output_out {i : Bool} {ini : List Int} {L : Link} {e o : Endpoint} {em : List (Int × Int)} (G : Good B i L e o) (hp : Pm e em) : Out B i ini o (output (embN ini L) (embE i e em)) (Kp421.output (lk i L e o) (sd i)) := by
  unfold output Kp421.output
  by_cases he : e.phase = .established
  · rw [if_neg (c := (embE i e em).state ≠ 4) (fun z => z (state_est.mpr he))]
    have hl : (embE i e em).unsent.length = e.unsent.length := ints_len _
    rw [hl, lk_set]
    have hb := G.le.held
    unfold Kp421.buffered at hb
    exact flush_out e.unsent.length (L.settings.buffer + 2) G hp he (Nat.le_refl _) (by omega)
  · rw [if_pos (c := (embE i e em).state ≠ 4) (fun z => he (state_est.mp z))]
    have ef : Kp421.flush (sd i) (L.settings.buffer + 2) (lk i L e o) = lk i L e o := by
      conv => lhs; unfold Kp421.flush
      simp only [at_e]
      rw [if_pos (c := e.phase ≠ .established) he]
    rw [lk_set, ef]
    exact Out.of G hp
/-- a failed endpoint -/
theorem fail_good {i : Bool} {L : Link} {e o : Endpoint} (G : Good B i L e o) : Good B i L (Kp421.fail e) o := by
  refine G.put .of ⟨G.le.ackle, ?_, fun p m => (nomatch m), ?_, G.le.rd, G.le.cw1, G.le.cw2, G.le.ini⟩ G.ce.rcv G.we (fun h => ⟨h.edge, fun z => (by rcases z with z | z <;> cases z), fun z => (by rcases z with z | z | z <;> cases z)⟩)
  · have h := next_le G.le
    exact ⟨h, rfl, rfl⟩
  · exact Nat.zero_le _
theorem fail_emb {i : Bool} {e : Endpoint} {em : List (Int × Int)} : (embE i e em).failed = embE i (Kp421.fail e) em := rfl
end Ws
set_option Elab.async false
set_option linter.all false
set_option maxRecDepth 100000
set_option maxHeartbeats 2000000
namespace Ws
open Kp421 (Segment Outstanding Phase Settings Endpoint Link)
variable {B : Nat}
/-! ### parts that differ in their counts and marks alone -/
structure SameP (p q : Outstanding) : Prop where
  pos : q.position = p.position
  syn : q.syn = p.syn
  fin : q.fin = p.fin
  pl : q.payload = p.payload
  sent : q.sentAt = p.sentAt
theorem SameP.refl (p : Outstanding) : SameP p p := ⟨rfl, rfl, rfl, rfl, rfl⟩
theorem SameP.size {p q : Outstanding} (h : SameP p q) : q.size = p.size := by
  unfold Outstanding.size
  rw [h.pl, h.syn, h.fin]
theorem SameP.finish {p q : Outstanding} (h : SameP p q) : q.finish = p.finish := by
  unfold Outstanding.finish
  rw [h.size, h.pos]
inductive SameL : List Outstanding → List Outstanding → Prop
  | nil : SameL [] []
  | cons {p q : Outstanding} {r s : List Outstanding} : SameP p q → SameL r s → SameL (p :: r) (q :: s)
theorem SameL.refl : ∀ l, SameL l l
  | [] => .nil
  | p :: r => .cons (.refl p) (.refl r)
theorem SameL.map {f : Outstanding → Outstanding} (h : ∀ p, SameP p (f p)) : ∀ l, SameL l (l.map f)
  | [] => .nil
  | p :: r => .cons (h p) (SameL.map h r)
theorem SameL.set : ∀ {l : List Outstanding} {k : Nat} {p q : Outstanding}, l[k]? = some p → SameP p q → SameL l (l.set k q)
  | [], _, _, _, h, _ => by simp at h
  | x :: r, 0, p, q, h, s => by
    have e : x = p := by simpa using h
    subst e
    exact .cons s (.refl r)
  | x :: r, k + 1, p, q, h, s => .cons (.refl x) (SameL.set (l := r) (k := k) (by simpa using h) s)
theorem SameL.chain {l r : List Outstanding} (s : SameL l r) : ∀ {a b : Nat}, Chain a l b → Chain a r b := by
  induction s with
  | nil => exact fun h => h
  | cons h _ ih =>
    intro a b c
    exact ⟨h.pos.trans c.1, by rw [h.finish]; exact ih c.2⟩
theorem SameL.all {l r : List Outstanding} (s : SameL l r) {P : Outstanding → Prop} (hP : ∀ p q, SameP p q → P p → P q) : (∀ p ∈ l, P p) → ∀ p ∈ r, P p := by
  induction s with
  | nil => exact fun h => h
  | cons h _ ih =>
    intro k p m
    rcases List.mem_cons.mp m with z | z
    · rw [z]
      exact hP _ _ h (k _ List.mem_cons_self)
    · exact ih (fun q mq => k q (List.mem_cons_of_mem _ mq)) p z
theorem SameL.sum {l r : List Outstanding} (s : SameL l r) : (r.map fun o => o.payload.length).sum = (l.map fun o => o.payload.length).sum := by
  induction s with
  | nil => rfl
  | cons h _ ih =>
    rw [List.map_cons, List.map_cons, List.sum_cons, List.sum_cons, ih, h.pl]
theorem SameL.nil_iff {l r : List Outstanding} (s : SameL l r) : l = [] ↔ r = [] := by
  cases s with
  | nil => exact Iff.rfl
  | cons => simp
theorem SameL.one {l r : List Outstanding} (s : SameL l r) {p : Outstanding} (h : l = [p]) (hs : p.syn = true) : ∃ q, r = [q] ∧ q.syn = true := by
  subst h
  cases s with
  | cons a b =>
    cases b
    exact ⟨_, rfl, a.syn.trans hs⟩
theorem PartG.same {now : Nat} {e : Endpoint} {p q : Outstanding} (s : SameP p q) (h : PartG now e p) : PartG now e q :=
  ⟨by rw [s.sent]; exact h.sent, by rw [s.syn, s.pos, s.pl, s.fin]; exact h.syn, by rw [s.fin, s.pos, s.pl]; exact h.fin, by rw [s.pos, s.pl]; exact h.str, by rw [s.size]; exact h.size, by rw [s.pos]; exact h.le⟩
/-- what is local, but counts, marks, timers, windows -/
theorem loc_same {c : Settings} {now : Nat} {e e' : Endpoint} (l : Loc c now e) (s : SameL e.outstanding e'.outstanding) (w1 : 1 ≤ e'.congestionWindow) (w2 : e'.congestionWindow ≤ 10000) (h1 : e'.phase = e.phase := by rfl) (h2 : e'.nextPosition = e.nextPosition := by rfl) (h3 : e'.acknowledged = e.acknowledged := by rfl)
    (h4 : e'.unsent = e.unsent := by rfl) (h5 : e'.closeRequested = e.closeRequested := by rfl) (h6 : e'.finSent = e.finSent := by rfl) (h7 : e'.written = e.written := by rfl) (h8 : e'.readable = e.readable := by rfl) (h9 : e'.initial = e.initial := by rfl) : Loc c now e' := by
  have g : Grow e e' := .of h9 h7 h5
  refine ⟨by rw [h2, h3]; exact l.ackle, ?_, fun p m => (s.all (P := PartG now e) (fun _ _ a b => b.same a) l.parts p m).grow g (Nat.le_refl _), ?_, by rw [h8]; exact l.rd, w1, w2, by rw [h9]; exact l.ini⟩
  · have cu := l.cur
    unfold Cur at cu ⊢
    rw [h1, h2, h3, h4, h5, h6, h7]
    cases hph : e.phase with
    | closed =>
      rw [hph] at cu
      obtain ⟨a, b, c', d, f, g', h⟩ := cu
      exact ⟨a, b, c', d, s.nil_iff.mp f, g', h⟩
    | listening =>
      rw [hph] at cu
      obtain ⟨a, b, c', d, f, g', h⟩ := cu
      exact ⟨a, b, c', d, s.nil_iff.mp f, g', h⟩
    | synSent =>
      rw [hph] at cu
      obtain ⟨a, b, c', d, p, hp, hs⟩ := cu
      exact ⟨a, b, c', d, s.one hp hs⟩
    | synReceived =>
      rw [hph] at cu
      obtain ⟨a, b, c', d, p, hp, hs⟩ := cu
      exact ⟨a, b, c', d, s.one hp hs⟩
    | established =>
      rw [hph] at cu
      exact ⟨s.chain cu.1, cu.2⟩
    | failed =>
      rw [hph] at cu
      exact ⟨cu.1, cu.2.1, s.nil_iff.mp cu.2.2⟩
  · have hb := l.held
    unfold Kp421.buffered at hb ⊢
    rw [h4, s.sum]
    exact hb
/-! ### retransmit -/
theorem unmarked_eq {i : Bool} {e : Endpoint} {em : List (Int × Int)} : (embE i e em).unmarked = e.outstanding.findIdx? fun o => !o.received := by
  unfold MEnd.unmarked
  show (e.outstanding.map prt).findIdx? _ = _
  rw [List.findIdx?_map]
  rfl
theorem parts_at {i : Bool} {e : Endpoint} {em : List (Int × Int)} (k : Nat) : (embE i e em).parts[k]? = (e.outstanding[k]?).map prt := List.getElem?_map ..
def bump (e : Endpoint) (k : Nat) (p : Outstanding) : Endpoint := { e with outstanding := e.outstanding.set k { p with transmissions := p.transmissions + 1 }, retransmissions := e.retransmissions + 1 }
theorem retx_out {i : Bool} {ini : List Int} {L : Link} {e o : Endpoint} {em : List (Int × Int)} (G : Good B i L e o) (hp : Pm e em) : OutP B i ini o (fun _ e' => Grow e e' ∧ e'.expected = e.expected) (retransmit (embN ini L) (embE i e em)) (Kp421.retransmit (lk i L e o) (sd i)) := by
  unfold retransmit Kp421.retransmit
  simp only [at_e]
  rw [unmarked_eq]
  cases hk : e.outstanding.findIdx? (fun o => !o.received) with
  | none => exact OutP.of G hp ⟨Grow.of rfl rfl rfl, rfl⟩
  | some k =>
    simp only [parts_at]
    cases hq : e.outstanding[k]? with
    | none =>
      obtain ⟨hl, _⟩ := List.findIdx?_eq_some_iff_getElem.mp hk
      rw [List.getElem?_eq_getElem hl] at hq
      cases hq
    | some p =>
      have P := G.le.parts p (List.mem_of_getElem? hq)
      have G' : Good B i L (bump e k p) o := G.put .of (loc_same G.le (SameL.set hq ⟨rfl, rfl, rfl, rfl, rfl⟩) G.le.cw1 G.le.cw2) G.ce.rcv G.we
      obtain ⟨t1, t2⟩ := tx_out (ini := ini) (em := em) G' hp p.syn p.fin false p.position p.payload P.le P.syn P.fin P.str
      have em1 : { embE i e em with parts := (embE i e em).parts.set k { prt p with transmissions := (prt p).transmissions + 1 }, retrans := (embE i e em).retrans + 1 } = embE i (bump e k p) em := by
        have : (e.outstanding.map prt).set k (prt { p with transmissions := p.transmissions + 1 }) = (e.outstanding.set k { p with transmissions := p.transmissions + 1 }).map prt := List.map_set.symm
        unfold embE bump
        simp only [← this]
        rfl
      have tt : transmitPart (embN ini L) (embE i (bump e k p) em) { prt p with transmissions := (prt p).transmissions + 1 } = some (embN ini (Kp421.transmit L (fromS L.settings (sd i) (bump e k p) p.syn p.fin false p.position p.payload))) := by
        unfold transmitPart
        rw [show ({ prt p with transmissions := (prt p).transmissions + 1 } : MPart).flag = (fl4 p.syn p.fin false false : Int) from flg_fl4 P.sf]
        exact t1
      simp only [Option.map_some]
      rw [em1, tt]
      refine ⟨_, bump e k p, em, rfl, hp, t2, ?_, Grow.of rfl rfl rfl, rfl⟩
      rw [set_e, lk_tx, lk_set, fromS_f]
      rfl
/-! ### the timer expires -/
theorem red_eq {i : Bool} {ini : List Int} {L : Link} {e : Endpoint} {em : List (Int × Int)} (h : e.acknowledged ≤ e.nextPosition) : halved (embN ini L) (embE i e em) = (Kp421.reducedThreshold L.settings e : Int) := by
  unfold halved Kp421.reducedThreshold
  rw [infl_eq h]
  have e1 : (Kp421.inFlight e : Int) / 2 = ((Kp421.inFlight e / 2 : Nat) : Int) := by omega
  have e2 : 2 * (embN ini L).size = ((2 * L.settings.segmentSize : Nat) : Int) := by
    show 2 * (L.settings.segmentSize : Int) = _
    omega
  rw [e1, e2, pmax_nat]
theorem red_bd {i : Bool} {L : Link} {e o : Endpoint} (G : Good B i L e o) : 1 ≤ Kp421.reducedThreshold L.settings e ∧ Kp421.reducedThreshold L.settings e ≤ 10000 := by
  unfold Kp421.reducedThreshold Kp421.inFlight
  have := next_le G.le
  have := G.we
  have := G.s1
  have := G.s2
  omega
theorem dbl_eq (t : Nat) : pmin (2 * (t : Int)) 60000 = ((min (2 * t) Kp421.maxTimeout : Nat) : Int) := by
  have := pmin_nat (2 * t) 60000
  unfold Kp421.maxTimeout
  rw [← this]
  rfl
theorem find_idx {p : Outstanding → Bool} {l : List Outstanding} : l.find? p = (l.findIdx? p).bind (l[·]?) := List.find?_eq_bind_findIdx?_getElem?
theorem exp_out {i : Bool} {ini : List Int} {L : Link} {e o : Endpoint} {em : List (Int × Int)} (G : Good B i L e o) (hp : Pm e em) : Out B i ini o (expire (embN ini L) (embE i e em)) (Kp421.expire (lk i L e o) (sd i)) := by
  unfold expire Kp421.expire
  simp only [at_e, set_e, lk_set, lk_now]
  by_cases h1 : e.outstanding = []
  · rw [if_pos (c := (embE i e em).parts = []) (ps_nil.mpr h1), if_pos (c := e.outstanding = []) h1]
    by_cases h2 : e.unsent = []
    · rw [if_neg (c := (embE i e em).unsent ≠ []) (fun z => z (un_nil.mpr h2)), if_pos (c := e.unsent = []) h2]
      have G' : Good B i L { e with timer := none } o := G.put .of (loc_same G.le (.refl _) G.le.cw1 G.le.cw2) G.ce.rcv G.we
      exact ⟨L, { e with timer := none }, em, rfl, hp, G', rfl, trivial⟩
    · rw [if_pos (c := (embE i e em).unsent ≠ []) (fun z => h2 (un_nil.mp z)), if_neg (c := e.unsent = []) h2]
      have he : e.phase = .established := by
        have cu := G.le.cur
        unfold Cur at cu
        cases hph : e.phase with
        | closed => rw [hph] at cu; exact absurd cu.2.2.2.1 h2
        | listening => rw [hph] at cu; exact absurd cu.2.2.2.1 h2
        | synSent => rw [hph] at cu; obtain ⟨_, _, _, _, p, hp, _⟩ := cu; rw [h1] at hp; cases hp
        | synReceived => rw [hph] at cu; obtain ⟨_, _, _, _, p, hp, _⟩ := cu; rw [h1] at hp; cases hp
        | established => rfl
        | failed => rw [hph] at cu; exact absurd cu.2.1 h2
      have G' : Good B i L { e with timeout := min (2 * e.timeout) Kp421.maxTimeout, timer := none } o := G.put .of (loc_same G.le (.refl _) G.le.cw1 G.le.cw2) G.ce.rcv G.we
      have hl : 0 < e.unsent.length := List.length_pos_iff.mpr h2
      have := (bytes_out (ini := ini) (em := em) G' hp he (k := 1) (by omega) h2 (many := 1) (by
        show (1 : Int) = ((min 1 e.unsent.length : Nat) : Int)
        omega)).out
      have em1 : doubled { embE i e em with timer := none } = embE i { e with timeout := min (2 * e.timeout) Kp421.maxTimeout, timer := none } em := by
        have := dbl_eq e.timeout
        unfold doubled embE
        simp only [this]
        rfl
      rw [em1]
      exact this
  · rw [if_neg (c := (embE i e em).parts = []) (fun z => h1 (ps_nil.mp z)), if_neg (c := e.outstanding = []) h1, unmarked_eq]
    have bd := red_bd G
    have G' : Good B i L { e with threshold := Kp421.reducedThreshold L.settings e, congestionWindow := L.settings.segmentSize, timeout := min (2 * e.timeout) Kp421.maxTimeout, timer := some (L.now + min (2 * e.timeout) Kp421.maxTimeout), duplicateAcks := 0 } o := by
      have s1 := G.s1
      have s2 := G.s2
      exact G.put .of (loc_same G.le (.refl _) s1 (by show L.settings.segmentSize ≤ 10000; omega)) G.ce.rcv G.we
    have rt := (retx_out (ini := ini) (em := em) G' hp).out
    have em1 : backOff (embN ini L) { embE i e em with timer := none } = embE i { e with threshold := Kp421.reducedThreshold L.settings e, congestionWindow := L.settings.segmentSize, timeout := min (2 * e.timeout) Kp421.maxTimeout, timer := some (L.now + min (2 * e.timeout) Kp421.maxTimeout), duplicateAcks := 0 } em := by
      have a1 := dbl_eq e.timeout
      have a2 := red_eq (ini := ini) (i := i) (em := em) (L := L) G.le.ackle
      unfold backOff
      have a3 : halved (embN ini L) { embE i e em with timer := none } = halved (embN ini L) (embE i e em) := rfl
      rw [a3, a2]
      unfold startTimer doubled embE
      simp only [a1]
      rfl
    rw [em1]
    unfold Kp421.isExhausted
    rw [find_idx]
    cases hk : e.outstanding.findIdx? (fun o => !o.received) with
    | none =>
      simp only [Option.bind_none]
      exact rt
    | some k =>
      simp only [Option.bind_some, parts_at]
      obtain ⟨p, hq⟩ : ∃ p, e.outstanding[k]? = some p := by
        obtain ⟨hl, _⟩ := List.findIdx?_eq_some_iff_getElem.mp hk
        exact ⟨_, List.getElem?_eq_getElem hl⟩
      · simp only [hq, Option.map_some]
        by_cases hx : L.settings.attempts ≤ p.transmissions
        · rw [if_pos (c := (prt p).transmissions ≥ (embN ini L).attempts) (by show (L.settings.attempts : Int) ≤ (p.transmissions : Int); omega), if_pos (decide_eq_true hx)]
          exact ⟨L, Kp421.fail e, em, rfl, hp, fail_good G, rfl, trivial⟩
        · rw [if_neg (c := (prt p).transmissions ≥ (embN ini L).attempts) (by show ¬ (L.settings.attempts : Int) ≤ (p.transmissions : Int); omega), if_neg (by rw [decide_eq_false hx]; exact Bool.false_ne_true)]
          exact rt
end Ws
set_option Elab.async false
set_option linter.all false
set_option maxRecDepth 100000
set_option maxHeartbeats 2000000
set_option pp.maxSteps 400
namespace Ws
open Kp421 (Segment Outstanding Phase Settings Endpoint Link)
variable {B : Nat}
/-! ### parts that are acknowledged -/
theorem rem_all {pos : Nat} : ∀ {ps : List Outstanding} {a b : Nat}, Chain a ps b → (∀ p ∈ ps, 1 ≤ p.size ∧ (p.syn = true → p.fin = false)) → pos ≤ a → Kp421.removeAcked pos ps = ps ∧ (ps.map prt).filter (fun p => decide (p.fin > (pos : Int))) = ps.map prt
  | [], _, _, _, _, _ => ⟨rfl, rfl⟩
  | p :: r, a, b, h, k, hl => by
    have h1 : p.position = a := h.1
    obtain ⟨s1, s2⟩ := k p List.mem_cons_self
    have hf : p.finish = p.position + p.size := rfl
    obtain ⟨ih1, ih2⟩ := rem_all (pos := pos) h.2 (fun q m => k q (List.mem_cons_of_mem _ m)) (by omega)
    constructor
    · unfold Kp421.removeAcked at ih1 ⊢
      rw [List.filterMap_cons_some (b := p), ih1]
      rw [if_neg (by omega), if_pos (by omega)]
    · rw [List.map_cons, List.filter_cons_of_pos, ih2]
      rw [fin_eq s2]
      exact decide_eq_true (by show (pos : Int) < (p.finish : Int); omega)
theorem trimmed_cons (pos : Int) (p : MPart) (r : List MPart) : trimmed pos (p :: r) = if p.position < pos then { p with payload := p.payload.drop (pos - p.position).toNat, position := pos } :: r else p :: r := rfl
theorem rem_eq {now : Nat} {e : Endpoint} {pos : Nat} : ∀ {ps : List Outstanding} {a b : Nat}, Chain a ps b → (∀ p ∈ ps, PartG now e p) → a ≤ pos → pos ≤ b →
    trimmed (pos : Int) ((ps.map prt).filter fun p => decide (p.fin > (pos : Int))) = (Kp421.removeAcked pos ps).map prt ∧ Chain pos (Kp421.removeAcked pos ps) b ∧ (∀ p ∈ Kp421.removeAcked pos ps, PartG now e p) ∧
      ((Kp421.removeAcked pos ps).map fun o => o.payload.length).sum ≤ (ps.map fun o => o.payload.length).sum
  | [], a, b, h, k, h1, h2 => by
    have e1 : a = b := h
    exact ⟨rfl, show pos = b by omega, fun _ m => (nomatch m), Nat.le_refl _⟩
  | p :: r, a, b, h, k, h1, h2 => by
    have hp : p.position = a := h.1
    have P := k p List.mem_cons_self
    have kr := fun q m => k q (List.mem_cons_of_mem p m)
    have hf : p.finish = p.position + p.size := rfl
    have hfe := fin_eq P.sf
    by_cases c : p.finish ≤ pos
    · obtain ⟨a1, a2, a3, a4⟩ := rem_eq h.2 kr c h2
      have er : Kp421.removeAcked pos (p :: r) = Kp421.removeAcked pos r := by
        unfold Kp421.removeAcked
        rw [List.filterMap_cons_none]
        rw [if_pos c]
      rw [er]
      refine ⟨?_, a2, a3, ?_⟩
      · rw [List.map_cons, List.filter_cons_of_neg, a1]
        rw [hfe]
        exact fun z => absurd (of_decide_eq_true z) (by show ¬ (pos : Int) < (p.finish : Int); omega)
      · rw [List.map_cons, List.sum_cons]
        omega
    · obtain ⟨a1, a2⟩ := rem_all (pos := pos) h.2 (fun q m => ⟨(kr q m).size, (kr q m).sf⟩) (by omega)
      have fl : ((p :: r).map prt).filter (fun p => decide (p.fin > (pos : Int))) = prt p :: r.map prt := by
        rw [List.map_cons, List.filter_cons_of_pos, a2]
        rw [hfe]
        exact decide_eq_true (by show (pos : Int) < (p.finish : Int); omega)
      rw [fl]
      by_cases c2 : pos ≤ p.position
      · have er : Kp421.removeAcked pos (p :: r) = p :: r := by
          unfold Kp421.removeAcked at a1 ⊢
          rw [List.filterMap_cons_some (b := p), a1]
          rw [if_neg c, if_pos c2]
        rw [er]
        refine ⟨?_, ⟨by omega, h.2⟩, k, Nat.le_refl _⟩
        rw [trimmed_cons, if_neg (c := (prt p).position < (pos : Int)) (by show ¬ (p.position : Int) < (pos : Int); omega)]
        rfl
      · have hs : p.syn = false := by
          cases hs : p.syn with
          | false => rfl
          | true =>
            obtain ⟨b1, b2, b3⟩ := P.syn hs
            have : p.size = 1 := by unfold Outstanding.size; rw [hs, b2, b3]; rfl
            omega
        have hn : p.fin = false := by
          cases hn : p.fin with
          | false => rfl
          | true =>
            obtain ⟨b1, _⟩ := P.fin hn
            have : p.size = 1 := by unfold Outstanding.size; rw [hs, b1, hn]; rfl
            omega
        have sz : p.size = p.payload.length := by unfold Outstanding.size; rw [hs, hn]; simp
        have er : Kp421.removeAcked pos (p :: r) = { p with position := pos, syn := false, payload := p.payload.drop (pos - p.position - 0) } :: r := by
          unfold Kp421.removeAcked at a1 ⊢
          rw [List.filterMap_cons_some (b := { p with position := pos, syn := false, payload := p.payload.drop (pos - p.position - 0) }), a1]
          rw [if_neg c, if_neg c2, hs]
          rfl
        rw [er]
        have str := P.str.le
        have ne : p.payload ≠ [] := fun z => by rw [z] at sz; simp at sz; omega
        have s2 : 1 ≤ p.position ∧ p.position + p.payload.length ≤ e.written.length + 1 := by
          rcases str with z | z
          · exact absurd z ne
          · exact z
        refine ⟨?_, ⟨rfl, ?_⟩, fun q m => ?_, ?_⟩
        · rw [trimmed_cons, if_pos (c := (prt p).position < (pos : Int)) (by show (p.position : Int) < (pos : Int); omega)]
          have tn : ((pos : Int) - (p.position : Int)).toNat = pos - p.position - 0 := by omega
          have fe : flg { p with position := pos, syn := false, payload := p.payload.drop (pos - p.position - 0) } = flg p := by
            unfold flg
            rw [hs]
          show ({ prt p with payload := (castL p.payload).drop ((pos : Int) - (p.position : Int)).toNat, position := (pos : Int) } : MPart) :: r.map prt = _
          rw [tn, ints_drop]
          show (⟨(pos : Int), flg p, _, _, _, _⟩ : MPart) :: _ = _
          rw [← fe]
          rfl
        · have : Outstanding.finish { p with position := pos, syn := false, payload := p.payload.drop (pos - p.position - 0) } = p.finish := by
            unfold Outstanding.finish Outstanding.size
            simp only [hs, hn, List.length_drop]
            simp
            omega
          rw [this]
          exact h.2
        · rcases List.mem_cons.mp m with z | z
          · rw [z]
            refine ⟨P.sent, fun z => (nomatch z), fun z => ?_, fun j v hj => ?_, ?_, ?_⟩
            · rw [show ({ p with position := pos, syn := false, payload := p.payload.drop (pos - p.position - 0) } : Outstanding).fin = p.fin from rfl, hn] at z
              cases z
            · have hj : (p.payload.drop (pos - p.position - 0))[j]? = some v := hj
              rw [List.getElem?_drop] at hj
              obtain ⟨b1, b2⟩ := P.str _ _ hj
              refine ⟨by show 1 ≤ pos; omega, ?_⟩
              show e.written[pos + j - 1]? = some v
              rw [← b2]
              exact congrArg (fun z => e.written[z]?) (by omega)
            · unfold Outstanding.size
              simp only [hn, List.length_drop]
              simp
              omega
            · show pos ≤ _
              omega
          · exact kr q z
        · rw [List.map_cons, List.map_cons, List.sum_cons, List.sum_cons]
          show (p.payload.drop (pos - p.position - 0)).length + _ ≤ _
          rw [List.length_drop]
          omega
/-! ### measuring -/
theorem meas_eq {i : Bool} {ini : List Int} {L : Link} {e : Endpoint} {em : List (Int × Int)} {p : Outstanding} (h : p.sentAt ≤ L.now) : ∃ rt to, Kp421.measure e (L.now - p.sentAt) = { e with roundTrip := rt, timeout := to } ∧ measure (embN ini L) (embE i e em) (prt p) = embE i { e with roundTrip := rt, timeout := to } em := by
  obtain ⟨m, hm⟩ : ∃ m, m = L.now - p.sentAt := ⟨_, rfl⟩
  have hmi : (embN ini L).now - (prt p).sentAt = (m : Int) := by
    show (L.now : Int) - (p.sentAt : Int) = _
    omega
  rw [← hm]
  unfold Kp421.measure measure
  rw [hmi]
  cases hr : e.roundTrip with
  | none =>
    refine ⟨_, _, rfl, ?_⟩
    rw [if_pos (show (embE i e em).measured = false by show e.roundTrip.isSome = false; rw [hr]; rfl)]
    have h1 : pmin 60000 (pmax 20 (8 * (m : Int) / 8 + 2 * (m : Int))) = ((min Kp421.maxTimeout (max Kp421.minTimeout (8 * m / 8 + 2 * m)) : Nat) : Int) := by
      unfold Kp421.maxTimeout Kp421.minTimeout
      have := pmax_nat 20 (8 * m / 8 + 2 * m)
      have h2 := pmin_nat 60000 (max 20 (8 * m / 8 + 2 * m))
      rw [← h2, ← this]
      congr 2
    rw [h1]
    rfl
  | some q =>
    obtain ⟨s, v⟩ := q
    refine ⟨_, _, rfl, ?_⟩
    rw [if_neg (show ¬ (embE i e em).measured = false by show ¬ e.roundTrip.isSome = false; rw [hr]; simp)]
    have hs : (embE i e em).smoothed = (s : Int) := by show smN e.roundTrip = _; rw [hr]; rfl
    have hv : (embE i e em).variation = (v : Int) := by show vaN e.roundTrip = _; rw [hr]; rfl
    simp only [hs, hv]
    have e1 : (s : Int) + ((m : Int) - (s : Int) / 8) = ((s + m - s / 8 : Nat) : Int) := by omega
    have e2 : (v : Int) + ((if (m : Int) - (s : Int) / 8 < 0 then -((m : Int) - (s : Int) / 8) else (m : Int) - (s : Int) / 8) - (v : Int) / 4) = ((v + (if s / 8 ≤ m then m - s / 8 else s / 8 - m) - v / 4 : Nat) : Int) := by
      by_cases c : s / 8 ≤ m
      · rw [if_neg (by omega), if_pos c]
        omega
      · rw [if_pos (by omega), if_neg c]
        omega
    rw [e1, e2]
    generalize s + m - s / 8 = x
    generalize (v + (if s / 8 ≤ m then m - s / 8 else s / 8 - m) - v / 4) = y
    have h1 : pmin 60000 (pmax 20 ((x : Int) / 8 + (y : Int))) = ((min Kp421.maxTimeout (max Kp421.minTimeout (x / 8 + y)) : Nat) : Int) := by
      unfold Kp421.maxTimeout Kp421.minTimeout
      have := pmax_nat 20 (x / 8 + y)
      have h2 := pmin_nat 60000 (max 20 (x / 8 + y))
      rw [← h2, ← this]
      congr 2
    rw [h1]
    unfold embE
    simp only [hr]
    rfl
/-! ### new positions are acknowledged -/
def ackE (L : Link) (e : Endpoint) (pos : Nat) (rt : Option (Nat × Nat)) (to : Nat) : Endpoint :=
  { e with roundTrip := rt, timeout := to, acknowledged := pos, outstanding := Kp421.removeAcked pos e.outstanding, congestionWindow := min Kp421.maxCongestionWindow (if e.congestionWindow < e.threshold then e.congestionWindow + min (pos - e.acknowledged) L.settings.segmentSize else e.congestionWindow + max 1 (L.settings.segmentSize * L.settings.segmentSize / e.congestionWindow)), duplicateAcks := 0, timer := if Kp421.removeAcked pos e.outstanding = [] then none else some (L.now + to) }
theorem newAck_out {i : Bool} {ini : List Int} {L : Link} {e o : Endpoint} {em : List (Int × Int)} (G : Good B i L e o) (hp : Pm e em) (he : e.phase = .established) {pos : Nat} (h1 : e.acknowledged ≤ pos) (h2 : pos ≤ e.nextPosition) :
    OutP B i ini o (fun L' e' => L' = L ∧ ∃ rt to, e' = ackE L e pos rt to) ((acknowledge (embN ini L) (embE i e em) (pos : Int)).bind fun e1 => some (embN ini L, e1)) (Kp421.newAck (lk i L e o) (sd i) pos) := by
  have cu := G.le.cur
  unfold Cur at cu
  rw [he] at cu
  obtain ⟨r1, r2, r3, r4⟩ := rem_eq cu.1 G.le.parts h1 h2
  have s1 := G.s1
  have s2 := G.s2
  have w1 := G.le.cw1
  have w2 := G.le.cw2
  -- the measurement
  have hm : ∃ rt to, Kp421.newAck (lk i L e o) (sd i) pos = lk i L (ackE L e pos rt to) o ∧ measured (embN ini L) (embE i e em) (pos : Int) = embE i { e with roundTrip := rt, timeout := to } em := by
    have ef : ((embE i e em).parts.filter fun p => decide (p.fin ≤ (pos : Int))) = (e.outstanding.filter fun o => decide (o.finish ≤ pos)).map prt := by
      show (e.outstanding.map prt).filter _ = _
      rw [List.filter_map]
      congr 1
      refine List.filter_congr fun q m => ?_
      show decide ((prt q).fin ≤ (pos : Int)) = _
      rw [fin_eq (G.le.parts q m).sf]
      exact decide_eq_decide.mpr ⟨fun h => by omega, fun h => by omega⟩
    unfold measured Kp421.newAck
    simp only [at_e, lk_now, lk_set]
    rw [ef, List.getLast?_map, if_neg (c := e.phase ≠ .established) (fun z => z he)]
    cases hq : (e.outstanding.filter fun o => decide (o.finish ≤ pos)).getLast? with
    | none => exact ⟨e.roundTrip, e.timeout, set_e, rfl⟩
    | some q =>
      have mq : q ∈ e.outstanding := (List.mem_filter.mp (List.mem_of_getLast? hq)).1
      by_cases ht : q.transmissions = 1
      · obtain ⟨rt, to, a, b⟩ := meas_eq (i := i) (ini := ini) (e := e) (em := em) (G.le.parts q mq).sent
        refine ⟨rt, to, ?_, ?_⟩
        · simp only [if_pos ht, a]
          exact set_e
        · show (if (prt q).transmissions = 1 then _ else _) = _
          rw [if_pos (c := (prt q).transmissions = 1) (show (q.transmissions : Int) = 1 by omega)]
          exact b
      · refine ⟨e.roundTrip, e.timeout, ?_, ?_⟩
        · simp only [if_neg ht]
          exact set_e
        · show (if (prt q).transmissions = 1 then _ else _) = _
          rw [if_neg (c := (prt q).transmissions = 1) (show ¬ (q.transmissions : Int) = 1 by omega)]
  obtain ⟨rt, to, m1, m2⟩ := hm
  have G' : Good B i L (ackE L e pos rt to) o := by
    refine G.put .of ⟨h2, ?_, fun p m => (r3 p m).grow .of (Nat.le_refl _), ?_, G.le.rd, ?_, ?_, G.le.ini⟩ G.ce.rcv G.we
    · unfold Cur
      rw [show (ackE L e pos rt to).phase = .established from he]
      exact ⟨r2, cu.2⟩
    · have hb := G.le.held
      unfold Kp421.buffered at hb ⊢
      show e.unsent.length + ((Kp421.removeAcked pos e.outstanding).map fun o => o.payload.length).sum ≤ _
      omega
    · show 1 ≤ min 10000 (if e.congestionWindow < e.threshold then _ else _)
      split <;> omega
    · show min 10000 _ ≤ 10000
      exact Nat.min_le_left _ _
  rw [m1]
  refine ⟨L, ackE L e pos rt to, em, ?_, hp, G', rfl, rfl, rt, to, rfl⟩
  unfold acknowledge
  have hl : (embE i e em).parts.length ≤ 10000 := by
    show (e.outstanding.map prt).length ≤ 10000
    rw [List.length_map]
    have := out_len G.le
    have := G.we
    omega
  rw [if_pos hl, if_pos (state_est.mpr he), m2]
  unfold grow
  have g1 : 1 ≤ (embE i { e with roundTrip := rt, timeout := to } em).congestion ∧ (embE i { e with roundTrip := rt, timeout := to } em).congestion ≤ 100000 ∧ 0 ≤ (embN ini L).size ∧ (embN ini L).size ≤ 1000 := by
    show 1 ≤ (e.congestionWindow : Int) ∧ (e.congestionWindow : Int) ≤ 100000 ∧ 0 ≤ (L.settings.segmentSize : Int) ∧ (L.settings.segmentSize : Int) ≤ 1000
    omega
  rw [if_pos g1]
  have cwe : pmin (if (e.congestionWindow : Int) < (e.threshold : Int) then (e.congestionWindow : Int) + pmin ((pos : Int) - (e.acknowledged : Int)) (L.settings.segmentSize : Int) else (e.congestionWindow : Int) + pmax 1 ((L.settings.segmentSize : Int) * (L.settings.segmentSize : Int) / (e.congestionWindow : Int))) 10000
      = ((min Kp421.maxCongestionWindow (if e.congestionWindow < e.threshold then e.congestionWindow + min (pos - e.acknowledged) L.settings.segmentSize else e.congestionWindow + max 1 (L.settings.segmentSize * L.settings.segmentSize / e.congestionWindow)) : Nat) : Int) := by
    have hc : ((if e.congestionWindow < e.threshold then e.congestionWindow + min (pos - e.acknowledged) L.settings.segmentSize else e.congestionWindow + max 1 (L.settings.segmentSize * L.settings.segmentSize / e.congestionWindow) : Nat) : Int)
        = (if (e.congestionWindow : Int) < (e.threshold : Int) then (e.congestionWindow : Int) + pmin ((pos : Int) - (e.acknowledged : Int)) (L.settings.segmentSize : Int) else (e.congestionWindow : Int) + pmax 1 ((L.settings.segmentSize : Int) * (L.settings.segmentSize : Int) / (e.congestionWindow : Int))) := by
      by_cases c : e.congestionWindow < e.threshold
      · rw [if_pos c, if_pos (by omega), show (pos : Int) - (e.acknowledged : Int) = ((pos - e.acknowledged : Nat) : Int) by omega, pmin_nat]
        exact Int.natCast_add ..
      · rw [if_neg c, if_neg (by omega)]
        have := pmax_nat 1 (L.settings.segmentSize * L.settings.segmentSize / e.congestionWindow)
        rw [Int.natCast_add, ← this, Int.natCast_ediv, Int.natCast_mul]
        rfl
    rw [← hc]
    unfold Kp421.maxCongestionWindow
    generalize (if e.congestionWindow < e.threshold then e.congestionWindow + min (pos - e.acknowledged) L.settings.segmentSize else e.congestionWindow + max 1 (L.settings.segmentSize * L.settings.segmentSize / e.congestionWindow)) = X
    have := pmin_nat X 10000
    rw [Nat.min_comm 10000 X]
    exact this
  have fin2 : settle (embN ini L) { embE i { e with roundTrip := rt, timeout := to } em with congestion := pmin (if (e.congestionWindow : Int) < (e.threshold : Int) then (e.congestionWindow : Int) + pmin ((pos : Int) - (e.acknowledged : Int)) (L.settings.segmentSize : Int) else (e.congestionWindow : Int) + pmax 1 ((L.settings.segmentSize : Int) * (L.settings.segmentSize : Int) / (e.congestionWindow : Int))) 10000 } (pos : Int) = embE i (ackE L e pos rt to) em := by
    rw [cwe]
    unfold settle
    have r1' : trimmed (pos : Int) (({ embE i { e with roundTrip := rt, timeout := to } em with congestion := ((min Kp421.maxCongestionWindow (if e.congestionWindow < e.threshold then e.congestionWindow + min (pos - e.acknowledged) L.settings.segmentSize else e.congestionWindow + max 1 (L.settings.segmentSize * L.settings.segmentSize / e.congestionWindow)) : Nat) : Int) } : MEnd).parts.filter fun p => decide (p.fin > (pos : Int))) = (Kp421.removeAcked pos e.outstanding).map prt := r1
    simp only [r1']
    have ht : (if (Kp421.removeAcked pos e.outstanding).map prt = [] then none else some ((L.now : Int) + (to : Int))) = tmN (if Kp421.removeAcked pos e.outstanding = [] then none else some (L.now + to)) := by
      by_cases c : Kp421.removeAcked pos e.outstanding = []
      · rw [if_pos c, if_pos (by rw [c]; rfl)]
        rfl
      · rw [if_neg c, if_neg (fun z => c (List.map_eq_nil_iff.mp z))]
        rfl
    unfold embE ackE
    congr 1
  show some (embN ini L, settle (embN ini L) _ (pos : Int)) = _
  rw [← fin2]
  rfl
end Ws
set_option Elab.async false
set_option linter.all false
set_option maxRecDepth 100000
set_option maxHeartbeats 2000000
set_option pp.maxSteps 400
namespace Ws
open Kp421 (Segment Outstanding Phase Settings Endpoint Link)
variable {B : Nat}
/-! ### what the peer reports -/
theorem fold_map {α β : Type} (f : β → α → α) : ∀ (bs : List β) (ps : List α), bs.foldl (fun ps b => ps.map (f b)) ps = ps.map fun p => bs.foldl (fun p b => f b p) p
  | [], ps => by simp
  | b :: r, ps => by
    rw [List.foldl_cons, fold_map f r, List.map_map]
    rfl
def inBlk (i k : Nat) (b : Nat × Nat) (o : Outstanding) : Bool := match Kp421.positionOf i k b.1, Kp421.positionOf i k b.2 with
  | some x, some y => decide (x ≤ o.position) && decide (o.finish ≤ y)
  | _, _ => false
def recd (o : Outstanding) : Outstanding := { o with received := true }
theorem recd_finish (o : Outstanding) : (recd o).finish = o.finish := rfl
theorem mark1 {i k : Nat} {b : Nat × Nat} {p : Outstanding} (sf : p.syn = true → p.fin = false) (h : ∃ x y, Kp421.positionOf i k b.1 = some x ∧ Kp421.positionOf i k b.2 = some y) : markBy (i : Int) (k : Int) (pair b) (prt p) = prt (if inBlk i k b p = true then recd p else p) := by
  obtain ⟨x, y, h1, h2⟩ := h
  unfold markBy
  rw [fin_eq sf]
  show (if posOf (i : Int) (b.1 : Int) (k : Int) ≤ (p.position : Int) ∧ (p.finish : Int) ≤ posOf (i : Int) (b.2 : Int) (k : Int) then _ else _) = _
  rw [pos_some h1, pos_some h2]
  have e : inBlk i k b p = (decide (x ≤ p.position) && decide (p.finish ≤ y)) := by
    unfold inBlk
    rw [h1, h2]
  rw [e]
  by_cases c : x ≤ p.position ∧ p.finish ≤ y
  · rw [if_pos (by omega), if_pos (by rw [decide_eq_true c.1, decide_eq_true c.2]; rfl)]
    rfl
  · rw [if_neg (by omega), if_neg (by rw [Bool.and_eq_true, decide_eq_true_eq, decide_eq_true_eq]; exact c)]
theorem marks {i k : Nat} : ∀ {bs : List (Nat × Nat)} {p : Outstanding}, (p.syn = true → p.fin = false) → (∀ b ∈ bs, ∃ x y, Kp421.positionOf i k b.1 = some x ∧ Kp421.positionOf i k b.2 = some y) →
    (pairs bs).foldl (fun p b => markBy (i : Int) (k : Int) b p) (prt p) = prt (if bs.any (fun b => inBlk i k b p) = true then recd p else p)
  | [], p, _, _ => rfl
  | b :: r, p, sf, h => by
    show (pairs r).foldl _ (markBy (i : Int) (k : Int) (pair b) (prt p)) = _
    rw [mark1 sf (h b List.mem_cons_self), List.any_cons]
    have hr := fun b m => h b (List.mem_cons_of_mem _ m)
    by_cases c : inBlk i k b p = true
    · rw [if_pos c, marks (p := recd p) sf hr, if_pos (c := (inBlk i k b p || r.any fun b => inBlk i k b p) = true) (by rw [c]; rfl)]
      split <;> rfl
    · rw [if_neg c, marks sf hr]
      rw [show (inBlk i k b p || r.any fun b => inBlk i k b p) = (r.any fun b => inBlk i k b p) by rw [Bool.eq_false_iff.mpr c]; rfl]
def liveE (e : Endpoint) (s : Segment) (p : Nat) : Endpoint :=
  if p = e.acknowledged ∧ s.window = 0 then Kp421.keepAlive (Kp421.markReceived { e with peerWindow := s.window } s.blocks) else Kp421.markReceived { e with peerWindow := s.window } s.blocks
theorem any_eq (e : Endpoint) (bs : List (Nat × Nat)) (o : Outstanding) : (bs.any fun b => match Kp421.positionOf e.initial e.acknowledged b.1, Kp421.positionOf e.initial e.acknowledged b.2 with
  | some x, some y => decide (x ≤ o.position) && decide (o.finish ≤ y)
  | _, _ => false) = bs.any fun b => inBlk e.initial e.acknowledged b o := rfl
theorem mark_eq (e : Endpoint) (bs : List (Nat × Nat)) : Kp421.markReceived e bs = { e with outstanding := e.outstanding.map fun o => if bs.any (fun b => inBlk e.initial e.acknowledged b o) = true then recd o else o } := rfl
theorem live_same (e : Endpoint) (s : Segment) (p : Nat) : ∃ ps, liveE e s p = { e with peerWindow := s.window, outstanding := ps } ∧ SameL e.outstanding ps := by
  have m : SameL e.outstanding (e.outstanding.map fun o => if s.blocks.any (fun b => inBlk e.initial e.acknowledged b o) = true then recd o else o) := SameL.map (fun p => by
    split
    · exact ⟨rfl, rfl, rfl, rfl, rfl⟩
    · exact .refl p) _
  unfold liveE
  rw [mark_eq]
  split
  · unfold Kp421.keepAlive
    simp only
    cases hq : (e.outstanding.map fun o => if s.blocks.any (fun b => inBlk e.initial e.acknowledged b o) = true then recd o else o) with
    | nil =>
      rw [hq] at m
      exact ⟨[], rfl, m⟩
    | cons x r =>
      rw [hq] at m
      refine ⟨{ x with transmissions := 1 } :: r, rfl, ?_⟩
      generalize e.outstanding = l at m
      cases m with
      | cons a b => exact .cons ⟨a.pos, a.syn, a.fin, a.pl, a.sent⟩ b
  · exact ⟨_, rfl, m⟩
theorem live_emb {i : Bool} {L : Link} {e o : Endpoint} {em : List (Int × Int)} (G : Good B i L e o) {s : Segment} (hs : SegG o e s) (p : Nat) :
    alive (markParts { embE i e em with peerWindow := (sg s).window } (sg s)) (sg s) (p : Int) = embE i (liveE e s p) em := by
  have nl := next_le G.le
  have al := G.le.ackle
  have we := G.we
  have e1 : markParts { embE i e em with peerWindow := (sg s).window } (sg s) = embE i (Kp421.markReceived { e with peerWindow := s.window } s.blocks) em := by
    unfold markParts
    rw [mark_eq]
    have : (sg s).blocks.foldl (fun ps b => ps.map (markBy (embE i e em).initial (embE i e em).acknowledged b)) (e.outstanding.map prt) = (e.outstanding.map fun o => if s.blocks.any (fun b => inBlk e.initial e.acknowledged b o) = true then recd o else o).map prt := by
      rw [fold_map, List.map_map, List.map_map]
      refine List.map_congr_left fun q m => ?_
      refine marks (G.le.parts q m).sf fun b mb => ?_
      obtain ⟨x, y, h1, h2, h3⟩ := hs.blk b mb
      exact ⟨x, y, by rw [h3]; exact pos_back (by omega) (by omega), by rw [h3]; exact pos_back (by omega) (by omega)⟩
    show ({ embE i e em with peerWindow := (s.window : Int), parts := (sg s).blocks.foldl (fun ps b => ps.map (markBy (embE i e em).initial (embE i e em).acknowledged b)) (e.outstanding.map prt) } : MEnd) = _
    rw [this]
    rfl
  rw [e1]
  unfold alive liveE
  have c1 : ((p : Int) = (embE i (Kp421.markReceived { e with peerWindow := s.window } s.blocks) em).acknowledged ∧ (sg s).window = 0) ↔ (p = e.acknowledged ∧ s.window = 0) := by
    show ((p : Int) = (e.acknowledged : Int) ∧ (s.window : Int) = 0) ↔ _
    omega
  by_cases c : p = e.acknowledged ∧ s.window = 0
  · rw [if_pos (c1.mpr c), if_pos c, mark_eq]
    unfold Kp421.keepAlive
    simp only
    cases hq : (e.outstanding.map fun o => if s.blocks.any (fun b => inBlk e.initial e.acknowledged b o) = true then recd o else o) with
    | nil =>
      unfold embE
      simp only [hq]
      rfl
    | cons x r =>
      unfold embE
      simp only [hq]
      rfl
  · rw [if_neg (fun z => c (c1.mp z)), if_neg c]
theorem live_good {i : Bool} {L : Link} {e o : Endpoint} (G : Good B i L e o) (s : Segment) (p : Nat) : Good B i L (liveE e s p) o ∧ Grow e (liveE e s p) := by
  obtain ⟨ps, h1, h2⟩ := live_same e s p
  rw [h1]
  exact ⟨G.put .of (loc_same G.le h2 G.le.cw1 G.le.cw2) G.ce.rcv G.we, .of⟩
/-! ### a duplicate -/
theorem dup_out {i : Bool} {ini : List Int} {L : Link} {e o : Endpoint} {em : List (Int × Int)} (G : Good B i L e o) (hp : Pm e em) : OutP B i ini o (fun _ e' => Grow e e' ∧ e'.expected = e.expected) (countDup (embN ini L) (embE i e em)) (Kp421.duplicateAck (lk i L e o) (sd i)) := by
  unfold countDup Kp421.duplicateAck
  simp only [at_e, set_e, lk_set, lk_now]
  have c1 : ((embE i e em).duplicates + 1 = 3) ↔ e.duplicateAcks + 1 = 3 := by
    show ((e.duplicateAcks : Int) + 1 = 3) ↔ _
    omega
  by_cases c : e.duplicateAcks + 1 = 3
  · rw [if_pos (c1.mpr c), if_pos c]
    obtain ⟨b1, b2⟩ := red_bd G
    have G' : Good B i L { e with duplicateAcks := 3, threshold := Kp421.reducedThreshold L.settings e, congestionWindow := Kp421.reducedThreshold L.settings e, timer := some (L.now + e.timeout) } o :=
      G.put .of (loc_same G.le (.refl _) b1 b2) G.ce.rcv G.we
    have := retx_out (ini := ini) (em := em) G' hp
    have em1 : startTimer (embN ini L) { embE i e em with duplicates := (embE i e em).duplicates + 1, threshold := halved (embN ini L) (embE i e em), congestion := halved (embN ini L) (embE i e em) } = embE i { e with duplicateAcks := 3, threshold := Kp421.reducedThreshold L.settings e, congestionWindow := Kp421.reducedThreshold L.settings e, timer := some (L.now + e.timeout) } em := by
      have a2 := red_eq (ini := ini) (i := i) (em := em) (L := L) G.le.ackle
      have a3 : (embE i e em).duplicates + 1 = 3 := c1.mpr c
      rw [a2, a3]
      rfl
    rw [em1]
    exact this.mono fun _ e' g => ⟨⟨g.1.ini, g.1.wr, g.1.cl⟩, g.2⟩
  · rw [if_neg (fun z => c (c1.mp z)), if_neg c]
    have G' : Good B i L { e with duplicateAcks := e.duplicateAcks + 1 } o := G.put .of (loc_same G.le (.refl _) G.le.cw1 G.le.cw2) G.ce.rcv G.we
    exact ⟨L, { e with duplicateAcks := e.duplicateAcks + 1 }, em, rfl, hp, G', rfl, Grow.of rfl rfl rfl, rfl⟩
/-- the link behind an acknowledgement at p -/
def confL (i : Bool) (L : Link) (e o : Endpoint) (s : Segment) (p : Nat) : Link :=
  if e.acknowledged < p then Kp421.newAck (lk i L (liveE e s p) o) (sd i) p
  else if (decide (p = e.acknowledged) && s.size == 0 && s.window == e.peerWindow && !e.outstanding.isEmpty) = true then Kp421.duplicateAck (lk i L (liveE e s p) o) (sd i) else lk i L (liveE e s p) o
theorem conf_out {i : Bool} {ini : List Int} {L : Link} {e o : Endpoint} {em : List (Int × Int)} (G : Good B i L e o) (hp : Pm e em) (he : e.phase = .established) {s : Segment} (hs : SegG o e s) {p : Nat} (h1 : e.acknowledged ≤ p) (h2 : p ≤ e.nextPosition) :
    OutP B i ini o (fun _ e' => Grow e e' ∧ e'.expected = e.expected) (recvConf (embN ini L) (embE i e em) (sg s) (p : Int)) (confL i L e o s p) := by
  obtain ⟨G1, g1⟩ := live_good G s p
  obtain ⟨ps, q1, q2⟩ := live_same e s p
  have hp1 : Pm (liveE e s p) em := by rw [q1]; exact hp
  unfold recvConf confL
  rw [live_emb G hs]
  by_cases c : e.acknowledged < p
  · rw [if_neg (c := (p : Int) = (embE i e em).acknowledged) (by show ¬ (p : Int) = (e.acknowledged : Int); omega), if_pos c]
    have := newAck_out (ini := ini) G1 hp1 (by rw [q1]; exact he) (pos := p) (by rw [q1]; exact h1) (by rw [q1]; exact h2)
    refine this.mono fun L' e' ⟨_, rt, to, z⟩ => ?_
    rw [z]
    refine ⟨⟨g1.ini, g1.wr, g1.cl⟩, ?_⟩
    show (liveE e s p).expected = _
    rw [q1]
  · have cp : p = e.acknowledged := by omega
    rw [if_pos (c := (p : Int) = (embE i e em).acknowledged) (by show (p : Int) = (e.acknowledged : Int); omega), if_neg c]
    have ed : isDup (embE i e em) (sg s) (p : Int) = (decide (p = e.acknowledged) && s.size == 0 && s.window == e.peerWindow && !e.outstanding.isEmpty) := by
      unfold isDup
      rw [size_eq]
      have a1 : decide ((p : Int) = (embE i e em).acknowledged) = decide (p = e.acknowledged) := decide_eq_decide.mpr (by show (p : Int) = (e.acknowledged : Int) ↔ _; omega)
      have a2 : decide ((s.size : Int) = 0) = (s.size == 0) := by
        rw [show (s.size == 0) = decide (s.size = 0) from rfl]
        exact decide_eq_decide.mpr (by omega)
      have a3 : decide ((sg s).window = (embE i e em).peerWindow) = (s.window == e.peerWindow) := by
        rw [show (s.window == e.peerWindow) = decide (s.window = e.peerWindow) from rfl]
        exact decide_eq_decide.mpr (by show (s.window : Int) = (e.peerWindow : Int) ↔ _; omega)
      have a4 : (embE i e em).parts.isEmpty = e.outstanding.isEmpty := by
        show (e.outstanding.map prt).isEmpty = _
        exact List.isEmpty_map
      rw [a1, a2, a3, a4, Bool.and_assoc, Bool.and_assoc]
    rw [ed]
    split
    · refine (dup_out (ini := ini) G1 hp1).mono fun L' e' g => ?_
      rw [q1] at g
      exact ⟨⟨g.1.ini, g.1.wr, g.1.cl⟩, g.2⟩
    · exact OutP.of G1 hp1 ⟨g1, by rw [q1]⟩
end Ws
set_option Elab.async false
set_option linter.all false
set_option maxRecDepth 100000
set_option maxHeartbeats 2000000
set_option pp.maxSteps 400
namespace Ws
open Kp421 (Segment Outstanding Phase Settings Endpoint Link)
variable {B : Nat}
/-! ### bytes that arrive -/
def storeS (lo hi : Nat) : Nat → List Nat → List (Nat × Nat) → List (Nat × Nat)
  | _, [], l => l
  | pos, v :: r, l => storeS lo hi (pos + 1) r (if lo ≤ pos ∧ pos < hi then Kp421.insertByte pos v l else l)
theorem fold_store (lo hi p : Nat) : ∀ (bs : List Nat) (k : Nat) (l : List (Nat × Nat)), (bs.zipIdx k).foldl (fun (l : List (Nat × Nat)) (x : Nat × Nat) => if lo ≤ p + x.2 ∧ p + x.2 < hi then Kp421.insertByte (p + x.2) x.1 l else l) l = storeS lo hi (p + k) bs l
  | [], _, _ => rfl
  | v :: r, k, l => by
    rw [List.zipIdx_cons, List.foldl_cons, fold_store lo hi p r (k + 1)]
    rfl
/-- the early bytes: sorted, from lo to hi, as W has them -/
structure EJ (W : List Nat) (lo hi : Nat) (l : List (Nat × Nat)) : Prop where
  srt : Srt l
  key : ∀ x ∈ l, lo ≤ x.1 ∧ x.1 < hi ∧ 1 ≤ x.1 ∧ W[x.1 - 1]? = some x.2
theorem ins_old : ∀ {l : List (Nat × Nat)} {k v : Nat}, Srt l → (∃ x ∈ l, x.1 = k) → Kp421.insertByte k v l = l
  | [], _, _, _, ⟨_, m, _⟩ => (nomatch m)
  | y :: r, k, v, s, ⟨x, m, e⟩ => by
    obtain ⟨s1, s2⟩ := List.pairwise_cons.mp s
    unfold Kp421.insertByte
    rcases List.mem_cons.mp m with z | z
    · rw [← z, if_neg (by omega), if_pos e.symm]
    · have := s1 x z
      rw [if_neg (by omega), if_neg (by omega), ins_old s2 ⟨x, z, e⟩]
theorem ins_new : ∀ {l : List (Nat × Nat)} {k v : Nat}, Srt l → (¬ ∃ x ∈ l, x.1 = k) → (Kp421.insertByte k v l).Perm ((k, v) :: l) ∧ Srt (Kp421.insertByte k v l)
  | [], k, v, _, _ => ⟨.refl _, List.pairwise_singleton _ _⟩
  | y :: r, k, v, s, h => by
    obtain ⟨s1, s2⟩ := List.pairwise_cons.mp s
    have hy : y.1 ≠ k := fun z => h ⟨y, List.mem_cons_self, z⟩
    unfold Kp421.insertByte
    by_cases c : k < y.1
    · rw [if_pos c]
      refine ⟨.refl _, List.pairwise_cons.mpr ⟨fun x m => ?_, s⟩⟩
      rcases List.mem_cons.mp m with z | z
      · rw [z]; exact c
      · have := s1 x z
        show k < x.1
        omega
    · rw [if_neg c, if_neg (fun z => hy z.symm)]
      obtain ⟨p1, p2⟩ := ins_new (k := k) (v := v) s2 fun ⟨x, m, e⟩ => h ⟨x, List.mem_cons_of_mem _ m, e⟩
      refine ⟨(p1.cons y).trans (.swap (k, v) y r), List.pairwise_cons.mpr ⟨fun x m => ?_, p2⟩⟩
      rcases List.mem_cons.mp (p1.mem_iff.mp m) with z | z
      · rw [z]
        show y.1 < k
        omega
      · exact s1 x z
theorem pairs_mem {l : List (Nat × Nat)} {q : Int × Int} : q ∈ pairs l ↔ ∃ x ∈ l, q = pair x := by
  unfold pairs
  rw [List.mem_map]
  exact ⟨fun ⟨x, m, e⟩ => ⟨x, m, e.symm⟩, fun ⟨x, m, e⟩ => ⟨x, m, e.symm⟩⟩
theorem put_ok {W : List Nat} {lo hi k v : Nat} {l : List (Nat × Nat)} {em : List (Int × Int)} (J : EJ W lo hi l) (P : em.Perm (pairs l)) (h1 : lo ≤ k) (h2 : k < hi) (h3 : 1 ≤ k) (h4 : W[k - 1]? = some v) :
    EJ W lo hi (Kp421.insertByte k v l) ∧ (putD em (k : Int) (v : Int)).Perm (pairs (Kp421.insertByte k v l)) := by
  by_cases c : ∃ x ∈ l, x.1 = k
  · rw [ins_old J.srt c]
    refine ⟨J, ?_⟩
    have ha : (em.any fun q => decide (q.1 = (k : Int))) = true := by
      obtain ⟨x, m, e⟩ := c
      rw [List.any_eq_true]
      exact ⟨pair x, P.mem_iff.mpr (pairs_mem.mpr ⟨x, m, rfl⟩), decide_eq_true (by show (x.1 : Int) = k; omega)⟩
    unfold putD
    rw [if_pos ha]
    have hm : em.map (fun q => if q.1 = (k : Int) then (q.1, (v : Int)) else q) = em := by
      conv => rhs; rw [← List.map_id em]
      refine List.map_congr_left fun q m => ?_
      obtain ⟨x, mx, e⟩ := pairs_mem.mp (P.mem_iff.mp m)
      subst e
      by_cases cq : (pair x).1 = (k : Int)
      · rw [if_pos cq]
        have xk : x.1 = k := by
          have : (x.1 : Int) = k := cq
          omega
        have := (J.key x mx).2.2.2
        rw [xk, h4] at this
        have e2 : v = x.2 := Option.some.inj this
        rw [e2]
        rfl
      · rw [if_neg cq]
        rfl
    rw [hm]
    exact P
  · obtain ⟨p1, p2⟩ := ins_new (v := v) J.srt c
    refine ⟨⟨p2, fun x m => ?_⟩, ?_⟩
    · rcases List.mem_cons.mp (p1.mem_iff.mp m) with z | z
      · rw [z]
        exact ⟨h1, h2, h3, h4⟩
      · exact J.key x z
    · have ha : ¬ (em.any fun q => decide (q.1 = (k : Int))) = true := by
        rw [List.any_eq_true]
        rintro ⟨q, m, e⟩
        obtain ⟨x, mx, e2⟩ := pairs_mem.mp (P.mem_iff.mp m)
        have e3 : q.1 = (k : Int) := of_decide_eq_true e
        rw [e2] at e3
        have e4 : (x.1 : Int) = k := e3
        exact c ⟨x, mx, by omega⟩
      unfold putD
      rw [if_neg ha]
      have a1 : (em ++ [((k : Int), (v : Int))]).Perm (((k : Int), (v : Int)) :: em) := List.perm_append_comm
      have a2 : (pairs (Kp421.insertByte k v l)).Perm (pairs ((k, v) :: l)) := p1.map pair
      exact (a1.trans (P.cons _)).trans a2.symm
theorem store_ok {W : List Nat} {lo hi : Nat} : ∀ {bs : List Nat} {pos : Nat} {l : List (Nat × Nat)} {em : List (Int × Int)}, EJ W lo hi l → em.Perm (pairs l) → Str W pos bs →
    EJ W lo hi (storeS lo hi pos bs l) ∧ (storeFrom (lo : Int) (hi : Int) (pos : Int) (castL bs) em).Perm (pairs (storeS lo hi pos bs l))
  | [], _, _, _, J, P, _ => ⟨J, P⟩
  | v :: r, pos, l, em, J, P, S => by
    have h0 := S 0 v rfl
    have S' : Str W (pos + 1) r := fun k u hk => by
      obtain ⟨a, b⟩ := S (k + 1) u hk
      refine ⟨by omega, ?_⟩
      rw [← b]
      exact congrArg (fun z => W[z]?) (by omega)
    show EJ W lo hi (storeS lo hi (pos + 1) r (if lo ≤ pos ∧ pos < hi then Kp421.insertByte pos v l else l)) ∧ (storeFrom (lo : Int) (hi : Int) ((pos : Int) + 1) (castL r) (if (lo : Int) ≤ (pos : Int) ∧ (pos : Int) < (hi : Int) then putD em (pos : Int) (v : Int) else em)).Perm (pairs (storeS lo hi (pos + 1) r (if lo ≤ pos ∧ pos < hi then Kp421.insertByte pos v l else l)))
    have ep : (pos : Int) + 1 = ((pos + 1 : Nat) : Int) := by omega
    rw [ep]
    by_cases c : lo ≤ pos ∧ pos < hi
    · rw [if_pos c, if_pos (by omega)]
      obtain ⟨a, b⟩ := put_ok J P c.1 c.2 h0.1 (by have := h0.2; rw [Nat.add_zero] at this; exact this)
      exact store_ok a b S'
    · rw [if_neg c, if_neg (by omega)]
      exact store_ok J P S'
/-! ### taking the bytes in turn -/
def embF (i : Bool) (e : Endpoint) (em : List (Int × Int)) (b : Bool) : MEnd := { embE i e em with finReceived := b }
theorem embF_eq {i : Bool} {e : Endpoint} {em : List (Int × Int)} : embF i e em (Kp421.finReceived e) = embE i e em := rfl
/-- what taking keeps -/
structure TJ (W : List Nat) (hi : Nat) (e0 e : Endpoint) : Prop where
  j : EJ W e.expected hi e.early
  ge : e0.expected ≤ e.expected
  rd : e.readable.length = e0.readable.length + (e.expected - e0.expected)
  wl : e.expected ≤ e0.expected ∨ e.expected ≤ W.length + 1
  edge : e.expected ≤ hi
  same : e = { e0 with expected := e.expected, readable := e.readable, early := e.early }
theorem take_ok {W : List Nat} {hi : Nat} {i : Bool} {e0 : Endpoint} {b : Bool} : ∀ {k : Nat} {e : Endpoint} {em : List (Int × Int)}, TJ W hi e0 e → Pm e em → e.early.length ≤ k →
    ∃ em', takeLoop k (embF i e em b) = embF i (Kp421.collect k e) em' b ∧ Pm (Kp421.collect k e) em' ∧ TJ W hi e0 (Kp421.collect k e) ∧ ∀ x ∈ (Kp421.collect k e).early, (Kp421.collect k e).expected < x.1
  | 0, e, em, J, P, hk => by
    have z : e.early = [] := List.length_eq_zero_iff.mp (by omega)
    exact ⟨em, rfl, P, J, fun x m => by
      have m : x ∈ e.early := m
      rw [z] at m
      cases m⟩
  | k + 1, e, em, J, P, hk => by
    have nomatch' : (∀ x ∈ e.early, e.expected < x.1) → takeLoop (k + 1) (embF i e em b) = embF i e em b := fun h => by
      unfold takeLoop
      have hf : (embF i e em b).early.find? (fun q => decide (q.1 = (embF i e em b).expected)) = none := by
        rw [List.find?_eq_none]
        intro q m z
        obtain ⟨x, mx, e2⟩ := pairs_mem.mp (P.mem_iff.mp m)
        have e3 : q.1 = (e.expected : Int) := of_decide_eq_true z
        rw [e2] at e3
        have e4 : (x.1 : Int) = e.expected := e3
        have := h x mx
        omega
      rw [hf]
    cases he : e.early with
    | nil =>
      have hc : Kp421.collect (k + 1) e = e := by
        unfold Kp421.collect
        rw [he]
      have hn : ∀ x ∈ e.early, e.expected < x.1 := fun x m => by rw [he] at m; cases m
      rw [hc]
      exact ⟨em, nomatch' hn, P, J, hn⟩
    | cons x rest =>
      have s0 := J.j.srt
      rw [he] at s0
      obtain ⟨s1, s2⟩ := List.pairwise_cons.mp s0
      have mx : x ∈ e.early := by rw [he]; exact List.mem_cons_self
      have kx := J.j.key x mx
      by_cases c : x.1 = e.expected
      · have hc : Kp421.collect (k + 1) e = Kp421.collect k { e with expected := e.expected + 1, readable := e.readable ++ [x.2], early := rest } := by
          conv => lhs; unfold Kp421.collect
          rw [he]
          exact if_pos c
        have hf : em.find? (fun q => decide (q.1 = (e.expected : Int))) = some (pair x) := by
          cases hq : em.find? (fun q => decide (q.1 = (e.expected : Int))) with
          | none =>
            rw [List.find?_eq_none] at hq
            have := hq (pair x) (P.mem_iff.mpr (pairs_mem.mpr ⟨x, mx, rfl⟩))
            exact absurd (decide_eq_true (by show (x.1 : Int) = e.expected; omega)) this
          | some q =>
            have h1 : q.1 = (e.expected : Int) := of_decide_eq_true (List.find?_some (p := fun q : Int × Int => decide (q.1 = (e.expected : Int))) hq)
            obtain ⟨y, my, e2⟩ := pairs_mem.mp (P.mem_iff.mp (List.mem_of_find?_eq_some hq))
            rw [e2] at h1
            have h2 : (y.1 : Int) = e.expected := h1
            rw [he] at my
            rcases List.mem_cons.mp my with z | z
            · rw [e2, z]
            · have := s1 y z
              omega
        have P' : Pm { e with expected := e.expected + 1, readable := e.readable ++ [x.2], early := rest } (em.filter fun q => decide (q.1 ≠ (e.expected : Int))) := by
          have a := P.filter (fun q => decide (q.1 ≠ (e.expected : Int)))
          have b2 : (pairs e.early).filter (fun q => decide (q.1 ≠ (e.expected : Int))) = pairs rest := by
            rw [he]
            show (pair x :: pairs rest).filter _ = _
            rw [List.filter_cons_of_neg, List.filter_eq_self]
            · intro q m
              obtain ⟨y, my, e2⟩ := pairs_mem.mp m
              have := s1 y my
              rw [e2]
              exact decide_eq_true (by show (y.1 : Int) ≠ e.expected; omega)
            · intro z
              have : (x.1 : Int) ≠ e.expected := of_decide_eq_true z
              omega
          rw [b2] at a
          exact a
        have wk := (List.getElem?_eq_some_iff.mp kx.2.2.2).1
        have J' : TJ W hi e0 { e with expected := e.expected + 1, readable := e.readable ++ [x.2], early := rest } := by
          have ge := J.ge
          have rd := J.rd
          refine ⟨⟨s2, fun y my => ?_⟩, by show _ ≤ e.expected + 1; omega, ?_, .inr ?_, by show e.expected + 1 ≤ hi; omega, ?_⟩
          · have := s1 y my
            have ky := J.j.key y (by rw [he]; exact List.mem_cons_of_mem _ my)
            exact ⟨by show e.expected + 1 ≤ y.1; omega, ky.2⟩
          · show (e.readable ++ [x.2]).length = _ + (e.expected + 1 - _)
            rw [List.length_append, List.length_singleton]
            omega
          · show e.expected + 1 ≤ W.length + 1
            omega
          · have := J.same
            rw [this]
        have hl : rest.length ≤ k := by rw [he, List.length_cons] at hk; omega
        obtain ⟨em', t1, t2, t3, t4⟩ := take_ok (k := k) (i := i) (b := b) J' P' hl
        rw [hc]
        refine ⟨em', ?_, t2, t3, t4⟩
        rw [← t1]
        conv => lhs; unfold takeLoop
        have hf' : (embF i e em b).early.find? (fun q => decide (q.1 = (embF i e em b).expected)) = some (pair x) := hf
        rw [hf']
        show takeLoop k { embF i e em b with readable := castL e.readable ++ [(x.2 : Int)], early := em.filter fun q => decide (q.1 ≠ (e.expected : Int)), expected := (e.expected : Int) + 1 } = _
        have er : castL e.readable ++ [(x.2 : Int)] = castL (e.readable ++ [x.2]) := ints_app e.readable [x.2]
        rw [er]
        rfl
      · have hc : Kp421.collect (k + 1) e = e := by
          unfold Kp421.collect
          rw [he]
          exact if_neg c
        have hn : ∀ y ∈ e.early, e.expected < y.1 := fun y m => by
          rw [he] at m
          rcases List.mem_cons.mp m with z | z
          · rw [z]
            omega
          · have := s1 y z
            omega
        rw [hc]
        exact ⟨em, nomatch' hn, P, J, hn⟩
end Ws
set_option Elab.async false
set_option linter.all false
set_option maxRecDepth 100000
set_option maxHeartbeats 2000000
set_option pp.maxSteps 400
namespace Ws
open Kp421 (Segment Outstanding Phase Settings Endpoint Link)
variable {B : Nat}
def startOf (s : Segment) : Nat := s.sequence + (if s.syn then 1 else 0)
/-- where a segment of o starts for e -/
theorem start_at {i : Bool} {L : Link} {e o : Endpoint} (G : Good B i L e o) {s : Segment} (hs : SegG o e s) (hx : e.expected ≠ 0) : ∃ q p : Nat, Kp421.positionOf e.peerInitial e.expected s.sequence = some q ∧ Kp421.positionOf e.peerInitial e.expected (startOf s) = some p ∧ (p : Int) = (if s.syn = true then (q : Int) + 1 else (q : Int)) ∧
    Str o.written p s.payload ∧ (s.fin = true → s.payload = [] ∧ p = o.written.length + 1 ∧ o.closeRequested = true) := by
  obtain ⟨pos, h1, h2, h3, h4, h5⟩ := hs.pos
  have wo := G.wo
  have xl := G.ce.exle
  have pi := G.ce.pi hx
  refine ⟨pos, if s.syn = true then pos + 1 else pos, ?_, ?_, ?_, ?_, ?_⟩
  · rw [pi, h1]
    exact pos_back (by omega) (by omega)
  · unfold startOf
    rw [pi, h1]
    cases s.syn with
    | true => exact pos_back1 (by omega) (by omega)
    | false => exact pos_back (by omega) (by omega)
  · split <;> rfl
  · cases hsy : s.syn with
    | true =>
      rw [(h3 hsy).2.1]
      exact .nil _ _
    | false => exact h5
  · intro z
    obtain ⟨a, b, c⟩ := h4 z
    cases hsy : s.syn with
    | true =>
      have := (h3 hsy).2.2
      rw [z] at this
      cases this
    | false => exact ⟨a, b, c⟩
def notedE (c : Settings) (e : Endpoint) (p : Nat) (s : Segment) : Endpoint :=
  { e with early := storeS e.expected (e.expected + Kp421.windowOf c e) p s.payload e.early, finPosition := if s.fin && e.finPosition.isNone && decide (p + s.payload.length ≤ e.expected + Kp421.windowOf c e) then some (p + s.payload.length) else e.finPosition }
def finE (e : Endpoint) : Endpoint := if e.finPosition = some e.expected then { e with expected := e.expected + 1 } else e
theorem accept_is (c : Settings) (e : Endpoint) (p : Nat) (s : Segment) : Kp421.accept c e p s = finE (Kp421.collect (notedE c e p s).early.length (notedE c e p s)) := by
  unfold Kp421.accept finE notedE
  simp only
  have := fold_store e.expected (e.expected + Kp421.windowOf c e) p s.payload 0 e.early
  rw [Nat.add_zero] at this
  rw [this]
theorem fp_some {e : Endpoint} : Kp421.finReceived e = true ↔ ∃ q, e.finPosition = some q ∧ q < e.expected := by
  unfold Kp421.finReceived
  cases e.finPosition with
  | none => simp
  | some q => simp
theorem accept_ok {i : Bool} {ini : List Int} {L : Link} {e o : Endpoint} {em : List (Int × Int)} (G : Good B i L e o) (hp : Pm e em) (hx : e.expected ≠ 0) {s : Segment} (hs : SegG o e s) :
    ∃ p em', Kp421.positionOf e.peerInitial e.expected (startOf s) = some p ∧ accept (embN ini L) (embE i e em) (sg s) = some (embE i (Kp421.accept L.settings e p s) em') ∧ Pm (Kp421.accept L.settings e p s) em' ∧ Good B i L (Kp421.accept L.settings e p s) o ∧ Grow e (Kp421.accept L.settings e p s) := by
  obtain ⟨q, p, hq, hpp, hpe, hstr, hfin⟩ := start_at G hs hx
  refine ⟨p, ?_⟩
  have wo := G.wo
  have rd := G.le.rd
  have b2 := G.b2
  -- the guard
  have gd : (embE i e em).early.length ≤ 10000 ∧ (embE i e em).readable.length ≤ 10000 ∧ (sg s).payload.length ≤ 10000 := by
    refine ⟨?_, ?_, ?_⟩
    · show em.length ≤ 10000
      have := G.ce.len
      rw [pm_len hp]
      omega
    · show (castL e.readable).length ≤ 10000
      rw [ints_len]
      omega
    · show (castL s.payload).length ≤ 10000
      rw [ints_len]
      rcases hstr.le with z | z
      · rw [z]
        exact Nat.zero_le _
      · omega
  -- what is stored
  have hw : Kp421.windowOf L.settings e = L.settings.buffer - e.readable.length := rfl
  have J0 : EJ o.written e.expected (e.expected + Kp421.windowOf L.settings e) e.early := ⟨G.ce.srt, fun x m => ⟨(G.ce.ea x m).1, G.re.edge x m, (G.ce.ea x m).2⟩⟩
  obtain ⟨J1, P1⟩ := store_ok (bs := s.payload) (pos := p) J0 hp hstr
  have wi := win_eq (ini := ini) (i := i) (em := em) rd
  -- the FIN's position
  have fpn : ∀ r, (notedE L.settings e p s).finPosition = some r → r = o.written.length + 1 ∧ o.closeRequested = true := by
    intro r hr
    unfold notedE at hr
    simp only at hr
    split at hr
    · rename_i c
      have c1 : s.fin = true := (Bool.and_eq_true_iff.mp (Bool.and_eq_true_iff.mp c).1).1
      obtain ⟨a, b, d⟩ := hfin c1
      have := Option.some.inj hr
      rw [a] at this
      simp at this
      exact ⟨by omega, d⟩
    · exact G.ce.fp r hr
  have fpk : ∀ r, e.finPosition = some r → (notedE L.settings e p s).finPosition = some r := by
    intro r hr
    unfold notedE
    simp only [hr]
    simp
  have est : storeSeg (embN ini L) (embE i e em) (sg s) (p : Int) = embF i (notedE L.settings e p s) (storeFrom (e.expected : Int) ((e.expected + Kp421.windowOf L.settings e : Nat) : Int) (p : Int) (castL s.payload) em) (Kp421.finReceived e) := by
    unfold storeSeg
    rw [has_fin, wi]
    have e1 : (embE i e em).expected + (Kp421.windowOf L.settings e : Int) = ((e.expected + Kp421.windowOf L.settings e : Nat) : Int) := rfl
    have e2 : (p : Int) + ((sg s).payload.length : Int) = ((p + s.payload.length : Nat) : Int) := by
      show (p : Int) + (((castL s.payload).length : Nat) : Int) = _
      rw [ints_len]
      rfl
    rw [e1, e2]
    have e3 : (if s.fin = true ∧ ((p + s.payload.length : Nat) : Int) ≤ ((e.expected + Kp421.windowOf L.settings e : Nat) : Int) then ((p + s.payload.length : Nat) : Int) else (embE i e em).finPos) = fpN (notedE L.settings e p s).finPosition := by
      by_cases c : s.fin = true ∧ p + s.payload.length ≤ e.expected + Kp421.windowOf L.settings e
      · rw [if_pos ⟨c.1, by omega⟩]
        cases hf : e.finPosition with
        | none =>
          unfold notedE
          simp only [hf, c.1, decide_eq_true c.2]
          rfl
        | some r =>
          rw [fpk r hf]
          obtain ⟨a, b, _⟩ := hfin c.1
          have := (G.ce.fp r hf).1
          show ((p + s.payload.length : Nat) : Int) = (r : Int)
          rw [a]
          simp
          omega
      · rw [if_neg (fun z => c ⟨z.1, by omega⟩)]
        have : (notedE L.settings e p s).finPosition = e.finPosition := by
          unfold notedE
          simp only
          rw [if_neg]
          intro z
          obtain ⟨z1, z2⟩ := Bool.and_eq_true_iff.mp z
          exact c ⟨(Bool.and_eq_true_iff.mp z1).1, of_decide_eq_true z2⟩
        rw [this]
        rfl
    unfold embF embE
    simp only
    rw [← e3]
    rfl
  -- taking
  have T0 : TJ o.written (e.expected + Kp421.windowOf L.settings e) (notedE L.settings e p s) (notedE L.settings e p s) :=
    ⟨J1, Nat.le_refl _, by omega, .inl (Nat.le_refl _), by show e.expected ≤ e.expected + _; omega, rfl⟩
  obtain ⟨em2, t1, t2, t3, t4⟩ := take_ok (i := i) (b := Kp421.finReceived e) (k := (notedE L.settings e p s).early.length) T0 (em := storeFrom (e.expected : Int) ((e.expected + Kp421.windowOf L.settings e : Nat) : Int) (p : Int) (castL s.payload) em) P1 (Nat.le_refl _)
  have fuel : (storeFrom (e.expected : Int) ((e.expected + Kp421.windowOf L.settings e : Nat) : Int) (p : Int) (castL s.payload) em).length = (notedE L.settings e p s).early.length := by
    rw [P1.length_eq]
    exact List.length_map ..
  have mir : accept (embN ini L) (embE i e em) (sg s) = some (takeFin (embF i (Kp421.collect (notedE L.settings e p s).early.length (notedE L.settings e p s)) em2 (Kp421.finReceived e))) := by
    unfold accept
    rw [if_pos gd, has_syn]
    have eq1 : posOf (embE i e em).peerInitial (sg s).seq (embE i e em).expected = (q : Int) := pos_some hq
    rw [eq1, if_neg (by omega), ← hpe, est]
    unfold takeEarly
    have el : (embF i (notedE L.settings e p s) (storeFrom (e.expected : Int) ((e.expected + Kp421.windowOf L.settings e : Nat) : Int) (p : Int) (castL s.payload) em) (Kp421.finReceived e)).early.length = (notedE L.settings e p s).early.length := fuel
    rw [el, t1]
  rw [mir, accept_is]
  have t3e := t3.same
  generalize Kp421.collect (notedE L.settings e p s).early.length (notedE L.settings e p s) = c at t1 t2 t3 t4 t3e ⊢
  have cf : c.finPosition = (notedE L.settings e p s).finPosition := by rw [t3e]
  have cph : c.phase = e.phase := by rw [t3e]; rfl
  have ge : e.expected ≤ c.expected := t3.ge
  have crd : c.readable.length = e.readable.length + (c.expected - e.expected) := t3.rd
  have cwl : c.expected ≤ e.expected ∨ c.expected ≤ o.written.length + 1 := t3.wl
  have ced : c.expected ≤ e.expected + Kp421.windowOf L.settings e := t3.edge
  have gr : Grow e c := by rw [t3e]; exact .of
  -- whether the FIN was received before
  have fr : c.finPosition ≠ some c.expected → Kp421.finReceived c = Kp421.finReceived e := by
    intro _
    cases hf : Kp421.finReceived e with
    | true =>
      obtain ⟨r, r1, r2⟩ := fp_some.mp hf
      exact fp_some.mpr ⟨r, by rw [cf]; exact fpk r r1, by omega⟩
    | false =>
      cases hc : Kp421.finReceived c with
      | false => rfl
      | true =>
        obtain ⟨r, r1, r2⟩ := fp_some.mp hc
        rw [cf] at r1
        have r3 := (fpn r r1).1
        have : e.expected ≤ o.written.length + 1 := by
          rcases G.ce.ex with z | ⟨z1, z2⟩
          · exact z
          · cases hfe : e.finPosition with
            | none => rw [hfe] at z1; cases z1
            | some r' =>
              have := (G.ce.fp r' hfe).1
              have := fp_some.mpr ⟨r', hfe, by omega⟩
              rw [hf] at this
              cases this
        omega
  have lc : ∀ x : Nat, Loc L.settings L.now { c with expected := x } := fun x => by
    rw [t3e]
    exact ⟨G.le.ackle, G.le.cur, fun p m => (G.le.parts p m).grow .of (Nat.le_refl _), G.le.held, by show c.readable.length ≤ _; omega, G.le.cw1, G.le.cw2, G.le.ini⟩
  have crx : ∀ x : Nat, (x = c.expected ∨ x = c.expected + 1) → (x ≤ o.written.length + 1 ∨ (c.finPosition.isSome = true ∧ x = o.written.length + 2)) → Cross { c with expected := x } o ∧ Rcv L.settings { c with expected := x } := fun x hxx hex => by
    refine ⟨⟨fun _ => ?_, t3.j.srt, fun y my => ?_, fun r hr => fpn r (cf ▸ hr), hex⟩, ⟨fun y my => ?_, fun _ => ?_, fun z => ?_⟩⟩
    · show c.peerInitial = _
      rw [t3e]
      exact G.ce.pi hx
    · have k := t3.j.key y my
      have := t4 y my
      exact ⟨by show x ≤ y.1; omega, k.2.2.1, k.2.2.2⟩
    · have k := t3.j.key y my
      show y.1 < x + (L.settings.buffer - c.readable.length)
      omega
    · show x ≠ 0
      omega
    · have z2 : e.phase = .closed ∨ e.phase = .listening ∨ e.phase = .synSent := by rw [← cph]; exact z
      exact absurd (G.re.pre z2).1 hx
  have ceq : ∀ x : Nat, x = c.expected → { c with expected := x } = c := fun x h => by rw [h]
  unfold finE
  by_cases cx : c.finPosition = some c.expected
  · rw [if_pos cx]
    refine ⟨em2, hpp, ?_, t2, ?_, ⟨gr.ini, gr.wr, gr.cl⟩⟩
    · unfold takeFin
      have : (embF i c em2 (Kp421.finReceived e)).expected = (embF i c em2 (Kp421.finReceived e)).finPos := by
        show (c.expected : Int) = fpN c.finPosition
        rw [cx]
        rfl
      rw [if_pos this]
      have fr2 : Kp421.finReceived { c with expected := c.expected + 1 } = true := fp_some.mpr ⟨c.expected, cx, Nat.lt_succ_self _⟩
      show some ({ embE i c em2 with finReceived := true, expected := (c.expected : Int) + 1 } : MEnd) = _
      unfold embE
      rw [fr2]
      rfl
    · have r3 := (fpn c.expected (cf ▸ cx)).1
      obtain ⟨a1, a2⟩ := crx (c.expected + 1) (.inr rfl) (.inr ⟨by rw [cx]; rfl, by omega⟩)
      exact G.put (e' := { c with expected := c.expected + 1 }) ⟨gr.ini, gr.wr, gr.cl⟩ (lc (c.expected + 1)) a1 (by show c.written.length ≤ 3840; rw [t3e]; exact G.we) (fun _ => a2) (fun h => by show c.written.length ≤ B; rw [t3e]; exact h)
  · rw [if_neg cx]
    refine ⟨em2, hpp, ?_, t2, ?_, gr⟩
    · unfold takeFin
      have : ¬ (embF i c em2 (Kp421.finReceived e)).expected = (embF i c em2 (Kp421.finReceived e)).finPos := by
        show ¬ (c.expected : Int) = fpN c.finPosition
        cases hc : c.finPosition with
        | none =>
          show ¬ (c.expected : Int) = -1
          omega
        | some r =>
          show ¬ (c.expected : Int) = (r : Int)
          intro z
          exact cx (by rw [hc]; exact congrArg some (by omega))
      rw [if_neg this, ← fr cx]
      rfl
    · have hex : c.expected ≤ o.written.length + 1 ∨ (c.finPosition.isSome = true ∧ c.expected = o.written.length + 2) := by
        rcases G.ce.ex with z | ⟨z1, z2⟩
        · exact .inl (by omega)
        · rcases cwl with y | y
          · refine .inr ⟨?_, by omega⟩
            cases hfe : e.finPosition with
            | none => rw [hfe] at z1; cases z1
            | some r => rw [cf, fpk r hfe]; rfl
          · exact .inl y
      obtain ⟨a1, a2⟩ := crx c.expected (.inl rfl) hex
      exact G.put gr (lc c.expected) a1 (by rw [t3e]; exact G.we) (fun _ => a2) (fun h => by show c.written.length ≤ B; rw [t3e]; exact h)
end Ws
set_option Elab.async false
set_option linter.all false
set_option maxRecDepth 100000
set_option maxHeartbeats 2000000
set_option pp.maxSteps 400
namespace Ws
open Kp421 (Segment Outstanding Phase Settings Endpoint Link)
variable {B : Nat}
theorem body_out {i : Bool} {ini : List Int} {L : Link} {e o : Endpoint} {em : List (Int × Int)} (G : Good B i L e o) (hp : Pm e em) (hx : e.expected ≠ 0) {s : Segment} (hs : SegG o e s) : Out B i ini o (recvBody (embN ini L) (embE i e em) (sg s)) (Kp421.processPayload (lk i L e o) (sd i) s) := by
  obtain ⟨p, em', h1, h2, h3, h4, h5⟩ := accept_ok (ini := ini) (em := em) G hp hx hs
  unfold recvBody Kp421.processPayload
  simp only [at_e, lk_set]
  rw [size_eq]
  have h1' : Kp421.positionOf e.peerInitial e.expected (s.sequence + (if s.syn = true then 1 else 0)) = some p := h1
  simp only [h1']
  by_cases c : s.size = 0
  · rw [if_neg (c := (s.size : Int) > 0) (by omega), if_pos c]
    exact output_out G hp
  · rw [if_pos (c := (s.size : Int) > 0) (by omega), if_neg c, set_e, h2]
    have a := ack_out (ini := ini) h4 h3
    have b := a.bind (f := fun r => output r.1 r.2) (g := fun l => Kp421.output l (sd i)) (Q := fun _ _ => True) fun L' e' em'' G' hp' _ => output_out G' hp'
    rw [Option.bind_assoc] at b
    exact b
theorem ack_some {i : Bool} {L : Link} {e o : Endpoint} {s : Segment} {p : Nat} (h : Kp421.positionOf e.initial e.acknowledged s.ack = some p) :
    Kp421.processAck (lk i L e o) (sd i) s = if e.nextPosition < p then none else if p < e.acknowledged then some (lk i L e o) else some (confL i L e o s p) := by
  unfold Kp421.processAck confL liveE
  simp only [at_e, h, set_e]
  by_cases c1 : e.nextPosition < p
  · rw [if_pos c1, if_pos c1]
  · rw [if_neg c1, if_neg c1]
    by_cases c2 : p < e.acknowledged
    · rw [if_pos c2, if_pos c2]
    · rw [if_neg c2, if_neg c2]
      by_cases c3 : e.acknowledged < p
      · rw [if_pos c3, if_pos c3]
      · rw [if_neg c3, if_neg c3]
        split
        · rfl
        · rfl
theorem est_out {i : Bool} {ini : List Int} {L : Link} {e o : Endpoint} {em : List (Int × Int)} (G : Good B i L e o) (hp : Pm e em) (he : e.phase = .established) {s : Segment} (hs : SegG o e s) : Out B i ini o (recvEstablished (embN ini L) (embE i e em) (sg s)) (Kp421.processEstablished (lk i L e o) (sd i) s) := by
  have hx := G.re.exq (.inr he)
  unfold recvEstablished Kp421.processEstablished
  rw [has_ack]
  by_cases c0 : s.hasAck = false
  · rw [if_pos c0, if_pos c0]
    exact Out.of G hp
  rw [if_neg c0, if_neg c0]
  cases hq : Kp421.positionOf e.initial e.acknowledged s.ack with
  | none =>
    have hn : posOf (embE i e em).initial (sg s).confirmed (embE i e em).acknowledged < 0 := pos_none hq
    have n1 : ¬ posOf (embE i e em).initial (sg s).confirmed (embE i e em).acknowledged > (embE i e em).next := by
      have : (0 : Int) ≤ (embE i e em).next := Int.natCast_nonneg _
      omega
    have n2 : ¬ posOf (embE i e em).initial (sg s).confirmed (embE i e em).acknowledged ≥ (embE i e em).acknowledged := by
      have : (0 : Int) ≤ (embE i e em).acknowledged := Int.natCast_nonneg _
      omega
    rw [if_neg n1, if_neg n2]
    have hpa : Kp421.processAck (lk i L e o) (sd i) s = some (lk i L e o) := by
      unfold Kp421.processAck
      simp only [at_e, hq]
    rw [hpa]
    exact body_out G hp hx hs
  | some p =>
    have hn : posOf (embE i e em).initial (sg s).confirmed (embE i e em).acknowledged = (p : Int) := pos_some hq
    rw [hn, ack_some hq]
    by_cases c1 : e.nextPosition < p
    · rw [if_pos c1, if_pos (c := (p : Int) > (embE i e em).next) (by show (e.nextPosition : Int) < p; omega)]
      exact (ack_out G hp).out
    · rw [if_neg c1, if_neg (c := (p : Int) > (embE i e em).next) (by show ¬ (e.nextPosition : Int) < p; omega)]
      by_cases c2 : p < e.acknowledged
      · rw [if_pos c2, if_neg (c := (p : Int) ≥ (embE i e em).acknowledged) (by show ¬ (e.acknowledged : Int) ≤ p; omega)]
        exact body_out G hp hx hs
      · rw [if_neg c2, if_pos (c := (p : Int) ≥ (embE i e em).acknowledged) (by show (e.acknowledged : Int) ≤ p; omega)]
        exact (conf_out (ini := ini) G hp he hs (p := p) (by omega) (by omega)).bind (g := fun l => Kp421.processPayload l (sd i) s) fun L' e' em' G' hp' ⟨g, x⟩ => body_out G' hp' (by rw [x]; exact hx) (hs.grow .of g)
/-! ### arrivals -/
theorem rst_out {i : Bool} {ini : List Int} {L : Link} {e o : Endpoint} {em : List (Int × Int)} (G : Good B i L e o) (hp : Pm e em) (s : Segment) :
    Out B i ini o (some (embN ini L, recvReset (embN ini L) (embE i e em) (sg s))) (if Kp421.acceptsReset (lk i L e o).settings e s then Kp421.setEndpoint (lk i L e o) (sd i) (Kp421.fail e) else lk i L e o) := by
  have wi := win_eq (ini := ini) (i := i) (em := em) G.le.rd
  have bad : Out B i ini o (some (embN ini L, (embE i e em).failed)) (lk i L (Kp421.fail e) o) := ⟨L, Kp421.fail e, em, rfl, hp, fail_good G, rfl, trivial⟩
  unfold recvReset Kp421.acceptsReset
  rw [set_e, lk_set, wi]
  have st : (embE i e em).state = phN e.phase := rfl
  rw [st]
  cases he : e.phase with
  | closed => exact Out.of G hp
  | listening => exact Out.of G hp
  | failed => exact Out.of G hp
  | synSent => exact bad
  | synReceived => exact bad
  | established =>
    show Out B i ini o (some (embN ini L, if (embE i e em).expected ≤ posOf (embE i e em).peerInitial (sg s).seq (embE i e em).expected ∧ posOf (embE i e em).peerInitial (sg s).seq (embE i e em).expected < (embE i e em).expected + pmax 1 (Kp421.windowOf L.settings e : Int) then (embE i e em).failed else embE i e em)) _
    have pm : pmax 1 (Kp421.windowOf L.settings e : Int) = ((max 1 (Kp421.windowOf L.settings e) : Nat) : Int) := pmax_nat 1 _
    rw [pm]
    cases hq : Kp421.positionOf e.peerInitial e.expected s.sequence with
    | none =>
      have hn : posOf (embE i e em).peerInitial (sg s).seq (embE i e em).expected < 0 := pos_none hq
      rw [if_neg (by
        have : (0 : Int) ≤ (embE i e em).expected := Int.natCast_nonneg _
        omega)]
      simp only [hq]
      exact Out.of G hp
    | some p =>
      have hn : posOf (embE i e em).peerInitial (sg s).seq (embE i e em).expected = (p : Int) := pos_some hq
      rw [hn]
      simp only [hq]
      by_cases c : e.expected ≤ p ∧ p < e.expected + max 1 (Kp421.windowOf L.settings e)
      · rw [if_pos (c := (embE i e em).expected ≤ (p : Int) ∧ (p : Int) < (embE i e em).expected + ((max 1 (Kp421.windowOf L.settings e) : Nat) : Int)) (show (e.expected : Int) ≤ p ∧ (p : Int) < (e.expected : Int) + ((max 1 (Kp421.windowOf L.settings e) : Nat) : Int) by omega), if_pos (by rw [decide_eq_true c.1, decide_eq_true c.2]; rfl)]
        exact bad
      · rw [if_neg (c := (embE i e em).expected ≤ (p : Int) ∧ (p : Int) < (embE i e em).expected + ((max 1 (Kp421.windowOf L.settings e) : Nat) : Int)) (show ¬ ((e.expected : Int) ≤ p ∧ (p : Int) < (e.expected : Int) + ((max 1 (Kp421.windowOf L.settings e) : Nat) : Int)) by omega), if_neg (by rw [Bool.and_eq_true, decide_eq_true_eq, decide_eq_true_eq]; exact c)]
        exact Out.of G hp
/-- a SYN tells o's initial number -/
theorem syn_ini {i : Bool} {L : Link} {e o : Endpoint} (G : Good B i L e o) {s : Segment} (hs : SegG o e s) (h : s.syn = true) : s.sequence = o.initial := by
  obtain ⟨pos, h1, _, h3, _⟩ := hs.pos
  rw [h1, (h3 h).1]
  have := G.lo.ini
  unfold Kp421.sequenceOf Kp421.sequenceModulus
  omega
theorem conf_syn {i : Bool} {e : Endpoint} {em : List (Int × Int)} {s : Segment} : confirmsSyn (embE i e em) (sg s) = (s.hasAck && s.ack == Kp421.sequenceOf e.initial 1) := by
  unfold confirmsSyn
  rw [has_ack]
  have e1 : seqOf (embE i e em).initial 1 = (Kp421.sequenceOf e.initial 1 : Int) := seq_eq e.initial 1
  rw [e1]
  cases s.hasAck with
  | false => rfl
  | true =>
    rw [if_neg (by simp), Bool.true_and, show (s.ack == Kp421.sequenceOf e.initial 1) = decide (s.ack = Kp421.sequenceOf e.initial 1) from rfl]
    exact decide_eq_decide.mpr (by show (s.ack : Int) = _ ↔ _; omega)
/-- e with o's SYN taken -/
def tookE (ph : Phase) (e : Endpoint) (s : Segment) : Endpoint := { e with phase := ph, peerInitial := s.sequence, expected := 1, peerWindow := s.window }
theorem took_cross {i : Bool} {L : Link} {e o : Endpoint} (G : Good B i L e o) {s : Segment} (hs : SegG o e s) (h : s.syn = true) (hph : e.phase = .closed ∨ e.phase = .listening ∨ e.phase = .synSent) {e' : Endpoint} (h1 : e'.peerInitial = s.sequence) (h2 : e'.expected = 1) (h3 : e'.early = e.early) (h4 : e'.finPosition = e.finPosition) : Cross e' o := by
  obtain ⟨_, p2, p3⟩ := G.re.pre hph
  refine ⟨fun _ => by rw [h1]; exact syn_ini G hs h, by rw [h3]; exact G.ce.srt, fun x m => ?_, fun p hp => ?_, .inl (by rw [h2]; omega)⟩
  · rw [h3, p2] at m
    cases m
  · rw [h4, p3] at hp
    cases hp
theorem listen_out {i : Bool} {ini : List Int} {L : Link} {e o : Endpoint} {em : List (Int × Int)} (G : Good B i L e o) (hp : Pm e em) (he : e.phase = .listening) {s : Segment} (hs : SegG o e s) (h : s.syn = true) :
    Out B i ini o (sendPart (embN ini L) { takeSyn (embE i e em) (sg s) with state := 3 } 1 []) (Kp421.sendNew (Kp421.setEndpoint (lk i L e o) (sd i) (tookE .synReceived e s)) (sd i) true false []) := by
  have cu := G.le.cur
  unfold Cur at cu
  rw [he] at cu
  obtain ⟨c1, c2, c3, c4, c5, c6, c7⟩ := cu
  have cr := took_cross G hs h (.inr (.inl he)) (e' := tookE .synReceived e s) rfl rfl rfl rfl
  obtain ⟨p1, p2, p3⟩ := G.re.pre (.inr (.inl he))
  rw [set_e]
  have G' : Good B i L (sentE L.now (tookE .synReceived e s) true false []) o := by
    refine G.put .of ⟨?_, ?_, fun p m => ?_, ?_, G.le.rd, G.le.cw1, G.le.cw2, G.le.ini⟩ ⟨cr.pi, cr.srt, cr.ea, cr.fp, cr.ex⟩ G.we (fun hr => ⟨fun x m => ?_, fun _ => Nat.one_ne_zero, fun z => ?_⟩)
    · show e.acknowledged ≤ e.nextPosition + 1
      omega
    · unfold Cur
      show e.nextPosition + 1 = 1 ∧ e.acknowledged = 0 ∧ e.unsent.drop 0 = e.written ∧ (e.finSent || false) = false ∧ ∃ p, e.outstanding ++ [newO L.now (tookE .synReceived e s) true false []] = [p] ∧ p.syn = true
      refine ⟨by omega, c2, by rw [c4, c3]; rfl, by rw [c7]; rfl, newO L.now (tookE .synReceived e s) true false [], by rw [c5]; rfl, rfl⟩
    · have m : p ∈ e.outstanding ++ [newO L.now (tookE .synReceived e s) true false []] := m
      rw [c5] at m
      rw [List.mem_singleton.mp m]
      exact ⟨Nat.le_refl _, fun _ => ⟨c1, rfl, rfl⟩, fun z => (nomatch z), .nil _ _, Nat.le_refl _, by show e.nextPosition ≤ _; omega⟩
    · show (e.unsent.drop 0).length + ((e.outstanding ++ [newO L.now (tookE .synReceived e s) true false []]).map fun (o : Outstanding) => o.payload.length).sum ≤ _
      rw [c4, c5]
      exact Nat.zero_le _
    · have m : x ∈ e.early := m
      rw [p2] at m
      cases m
    · rcases z with z | z | z <;> cases z
  have so := send_out' (ini := ini) (e := tookE .synReceived e s) (em := em) cr G.le.rd (by show e.outstanding.length ≤ _; rw [c5]; exact Nat.zero_le _) (by show e.nextPosition ≤ _; omega) hp true false [] 1 rfl (fun _ => ⟨c1, rfl, rfl⟩) (fun z => nomatch z) (.nil _ _) G'
  have em1 : embE i (preE (tookE .synReceived e s) false []) em = { takeSyn (embE i e em) (sg s) with state := 3 } := by
    have hf : Kp421.finReceived (preE (tookE .synReceived e s) false []) = Kp421.finReceived e := by
      unfold Kp421.finReceived
      show (match e.finPosition with
        | none => false
        | some p => decide (p < 1)) = _
      rw [p3]
    unfold embE
    rw [hf]
    unfold preE tookE
    simp only [List.length_nil, List.drop_zero, Bool.or_false]
    rfl
  rw [em1] at so
  exact so.out
theorem sent_out {i : Bool} {ini : List Int} {L : Link} {e o : Endpoint} {em : List (Int × Int)} (G : Good B i L e o) (hp : Pm e em) (he : e.phase = .synSent) {s : Segment} (hs : SegG o e s) (h : s.syn = true) :
    Out B i ini o ((acknowledge (embN ini L) (takeSyn { embE i e em with state := 4 } (sg s)) 1).bind fun e1 => (sendAck (embN ini L) e1).bind fun n1 => output n1 e1) (Kp421.output (Kp421.sendAck (Kp421.newAck (Kp421.setEndpoint (lk i L e o) (sd i) (tookE .established e s)) (sd i) 1) (sd i)) (sd i)) := by
  have cu := G.le.cur
  unfold Cur at cu
  rw [he] at cu
  obtain ⟨c1, c2, c3, c4, p, c5, c6⟩ := cu
  have cr := took_cross G hs h (.inr (.inr he)) (e' := tookE .established e s) rfl rfl rfl rfl
  obtain ⟨p1, p2, p3⟩ := G.re.pre (.inr (.inr he))
  have ch : Chain e.acknowledged e.outstanding e.nextPosition := by
    rcases loc_chain G.le with z | z
    · rw [c5] at z
      cases z
    · exact z
  have G' : Good B i L (tookE .established e s) o := by
    refine G.put .of ⟨G.le.ackle, ?_, fun p m => (G.le.parts p m).grow .of (Nat.le_refl _), G.le.held, G.le.rd, G.le.cw1, G.le.cw2, G.le.ini⟩ cr G.we (fun hr => ⟨fun x m => ?_, fun _ => Nat.one_ne_zero, fun z => ?_⟩)
    · unfold Cur
      show Chain e.acknowledged e.outstanding e.nextPosition ∧ 1 ≤ e.nextPosition ∧ ((e.finSent = true ∧ e.nextPosition = e.written.length + 2 ∧ e.unsent = [] ∧ e.closeRequested = true) ∨ (e.finSent = false ∧ e.nextPosition ≤ e.written.length + 1 ∧ e.unsent = e.written.drop (e.nextPosition - 1)))
      exact ⟨ch, by omega, .inr ⟨c4, by omega, by rw [c1, c3]; rfl⟩⟩
    · have m : x ∈ e.early := m
      rw [p2] at m
      cases m
    · rcases z with z | z | z <;> cases z
  rw [set_e]
  have em1 : takeSyn { embE i e em with state := 4 } (sg s) = embE i (tookE .established e s) em := by
    have hf : Kp421.finReceived (tookE .established e s) = Kp421.finReceived e := by
      unfold Kp421.finReceived
      show (match e.finPosition with
        | none => false
        | some p => decide (p < 1)) = _
      rw [p3]
    unfold embE
    rw [hf]
    rfl
  rw [em1]
  have na := newAck_out (ini := ini) (em := em) G' hp rfl (pos := 1) (by show e.acknowledged ≤ 1; omega) (by show 1 ≤ e.nextPosition; omega)
  have b := na.bind (f := fun r => (sendAck r.1 r.2).bind fun n1 => output n1 r.2) (g := fun l => Kp421.output (Kp421.sendAck l (sd i)) (sd i)) (Q := fun _ _ => True) fun L' e' em' G' hp' _ => by
    have a := (ack_out (ini := ini) G' hp').bind (f := fun r => output r.1 r.2) (g := fun l => Kp421.output l (sd i)) (Q := fun _ _ => True) fun L'' e'' em'' G'' hp'' _ => output_out G'' hp''
    rw [Option.bind_assoc] at a
    exact a
  rw [Option.bind_assoc] at b
  exact b
theorem arrive_out {i : Bool} {ini : List Int} {L : Link} {e o : Endpoint} {em : List (Int × Int)} (G : Good B i L e o) (hp : Pm e em) {s : Segment} (hs : SegG o e s) : Out B i ini o (recv (embN ini L) (embE i e em) (sg s)) (Kp421.arrive (lk i L e o) (sd i) s) := by
  unfold recv Kp421.arrive
  simp only [at_e]
  rw [has_rst]
  by_cases c0 : s.reset = true
  · rw [if_pos c0, if_pos c0]
    exact rst_out G hp s
  rw [if_neg c0, if_neg c0]
  have st : (embE i e em).state = phN e.phase := rfl
  rw [st]
  cases he : e.phase with
  | closed => exact Out.of G hp
  | failed => exact Out.of G hp
  | listening =>
    show Out B i ini o (recvListening (embN ini L) (embE i e em) (sg s)) _
    unfold recvListening
    rw [has_syn, has_ack]
    by_cases c : s.syn = true ∧ s.hasAck = false
    · rw [if_pos c]
      have : (s.syn && !s.hasAck) = true := by rw [c.1, c.2]; rfl
      simp only [this]
      exact listen_out G hp he hs c.1
    · rw [if_neg c]
      have : (s.syn && !s.hasAck) = false := by
        cases h1 : s.syn with
        | false => rfl
        | true =>
          cases h2 : s.hasAck with
          | true => rfl
          | false => exact absurd ⟨h1, h2⟩ c
      simp only [this]
      exact Out.of G hp
  | synSent =>
    show Out B i ini o (recvSynSent (embN ini L) (embE i e em) (sg s)) _
    unfold recvSynSent
    rw [has_syn, conf_syn]
    by_cases c : s.syn = true ∧ (s.hasAck && s.ack == Kp421.sequenceOf e.initial 1) = true
    · rw [if_pos c]
      have : (s.syn && s.hasAck && s.ack == Kp421.sequenceOf e.initial 1) = true := by rw [Bool.and_assoc, c.1, c.2]; rfl
      simp only [this]
      exact sent_out G hp he hs c.1
    · rw [if_neg c]
      have : (s.syn && s.hasAck && s.ack == Kp421.sequenceOf e.initial 1) = false := by
        rw [Bool.and_assoc]
        cases h1 : s.syn with
        | false => rfl
        | true =>
          cases h2 : (s.hasAck && s.ack == Kp421.sequenceOf e.initial 1) with
          | false => rfl
          | true => exact absurd ⟨h1, h2⟩ c
      simp only [this]
      exact Out.of G hp
  | synReceived =>
    show Out B i ini o (recvSynReceived (embN ini L) (embE i e em) (sg s)) _
    unfold recvSynReceived
    rw [has_syn, has_ack, conf_syn]
    have cu := G.le.cur
    unfold Cur at cu
    rw [he] at cu
    obtain ⟨c1, c2, c3, c4, p, c5, c6⟩ := cu
    by_cases hsy : s.syn = true
    · rw [if_pos hsy]
      simp only [hsy]
      cases ha : s.hasAck with
      | true => exact Out.of G hp
      | false =>
        have P := G.le.parts p (by rw [c5]; exact List.mem_cons_self)
        obtain ⟨q1, q2, q3⟩ := P.syn c6
        have epr : (embE i e em).parts = [prt p] := by
          show e.outstanding.map prt = _
          rw [c5]
          rfl
        rw [epr]
        obtain ⟨t1, t2⟩ := tx_out (ini := ini) (em := em) G hp true false false 0 [] (by omega) (fun _ => ⟨rfl, rfl, rfl⟩) (fun z => nomatch z) (.nil _ _)
        have tt : transmitPart (embN ini L) (embE i e em) (prt p) = some (embN ini (Kp421.transmit L (fromS L.settings (sd i) e true false false 0 []))) := by
          unfold transmitPart
          rw [← t1]
          show transmit _ _ (flg p) (p.position : Int) (castL p.payload) = _
          rw [flg_fl4 P.sf, q1, q2, q3, c6]
          try rfl
        show Out B i ini o ((transmitPart (embN ini L) (embE i e em) (prt p)).bind fun n1 => some (n1, embE i e em)) (Kp421.transmit (lk i L e o) (Kp421.segmentFrom (lk i L e o).settings (sd i) e true false 0 []))
        rw [tt]
        exact ⟨_, e, em, rfl, hp, t2, by rw [lk_tx, fromS_f]; rfl, trivial⟩
    · rw [if_neg hsy]
      simp only [Bool.not_eq_true] at hsy
      simp only [hsy]
      by_cases c : (s.hasAck && s.ack == Kp421.sequenceOf e.initial 1) = true
      · rw [if_pos c]
        simp only [c]
        have ch : Chain e.acknowledged e.outstanding e.nextPosition := by
          rcases loc_chain G.le with z | z
          · rw [c5] at z
            cases z
          · exact z
        have G' : Good B i L { e with phase := .established } o := by
          refine G.put .of ⟨G.le.ackle, ?_, fun p m => (G.le.parts p m).grow .of (Nat.le_refl _), G.le.held, G.le.rd, G.le.cw1, G.le.cw2, G.le.ini⟩ G.ce.rcv G.we (fun hr => ⟨hr.edge, fun _ => hr.exq (.inl he), fun z => ?_⟩)
          · unfold Cur
            show Chain e.acknowledged e.outstanding e.nextPosition ∧ 1 ≤ e.nextPosition ∧ ((e.finSent = true ∧ e.nextPosition = e.written.length + 2 ∧ e.unsent = [] ∧ e.closeRequested = true) ∨ (e.finSent = false ∧ e.nextPosition ≤ e.written.length + 1 ∧ e.unsent = e.written.drop (e.nextPosition - 1)))
            exact ⟨ch, by omega, .inr ⟨c4, by omega, by rw [c1, c3]; rfl⟩⟩
          · rcases z with z | z | z <;> cases z
        have := est_out (ini := ini) (em := em) G' hp rfl (hs.grow .of .of)
        show Out B i ini o (recvEstablished (embN ini L) { embE i e em with state := 4 } (sg s)) (Kp421.processEstablished (Kp421.establish (lk i L e o) (sd i)) (sd i) s)
        unfold Kp421.establish
        rw [at_e, set_e]
        exact this
      · rw [if_neg c]
        simp only [Bool.not_eq_true] at c
        simp only [c]
        exact Out.of G hp
  | established =>
    show Out B i ini o (recvEstablished (embN ini L) (embE i e em) (sg s)) _
    exact est_out G hp he hs
end Ws
set_option Elab.async false
set_option linter.all false
set_option maxRecDepth 100000
set_option maxHeartbeats 2000000
set_option pp.maxSteps 400
namespace Ws
open Kp421 (Segment Outstanding Phase Settings Endpoint Link)
variable {B : Nat}
/-! ### the whole link -/
def SimL (B : Nat) (ini : List Int) (m : MLink) (l : Link) : Prop := ∃ L a b ea eb, m = ⟨embN ini L, embE false a ea, embE true b eb⟩ ∧ l = lk false L a b ∧ Pm a ea ∧ Pm b eb ∧ Good B false L a b
theorem SimL.view {ini : List Int} {m : MLink} {l : Link} (S : SimL B ini m l) (i : Bool) : ∃ L e o em eo, m.n = embN ini L ∧ m.at i = embE i e em ∧ m.at (!i) = embE (!i) o eo ∧ l = lk i L e o ∧ Pm e em ∧ Pm o eo ∧ Good B i L e o := by
  obtain ⟨L, a, b, ea, eb, rfl, rfl, h1, h2, G⟩ := S
  cases i
  · exact ⟨L, a, b, ea, eb, rfl, rfl, rfl, rfl, h1, h2, G⟩
  · exact ⟨L, b, a, eb, ea, rfl, rfl, rfl, rfl, h2, h1, G.swap⟩
theorem SimL.mk' {ini : List Int} {i : Bool} {L : Link} {e o : Endpoint} {em eo : List (Int × Int)} (h1 : Pm e em) (h2 : Pm o eo) (G : Good B i L e o) : SimL B ini (MLink.put (embN ini L) (embE (!i) o eo) i (embE i e em)) (lk i L e o) := by
  cases i
  · exact ⟨L, e, o, em, eo, rfl, rfl, h1, h2, G⟩
  · exact ⟨L, o, e, eo, em, rfl, rfl, h2, h1, G.swap⟩
theorem on_sim {ini : List Int} {m : MLink} {l : Link} (S : SimL B ini m l) (i : Bool) {f : MNet → MEnd → Option (MNet × MEnd)} {g : Link → Link} (h : ∀ L e o em, Good B i L e o → Pm e em → Out B i ini o (f (embN ini L) (embE i e em)) (g (lk i L e o))) : ∃ m', m.on i f = some m' ∧ SimL B ini m' (g l) := by
  obtain ⟨L, e, o, em, eo, h1, h2, h3, rfl, p1, p2, G⟩ := S.view i
  obtain ⟨L', e', em', q1, q2, q3, q4, _⟩ := h L e o em G p1
  refine ⟨MLink.put (embN ini L') (embE (!i) o eo) i (embE i e' em'), ?_, ?_⟩
  · unfold MLink.on
    rw [h1, h2, h3, q1]
    rfl
  · rw [q4]
    exact SimL.mk' q2 p2 q3
/-- only the network, the clock, the counts change -/
theorem Good.rest {i : Bool} {L L' : Link} {e o : Endpoint} (G : Good B i L e o) (h1 : L'.settings = L.settings) (h2 : L.now ≤ L'.now) (h3 : ∀ g ∈ L'.network, g ∈ L.network) (h4 : L'.network.length ≤ 60) : Good B i L' e o := by
  have lm : ∀ {x : Endpoint}, Loc L.settings L.now x → Loc L'.settings L'.now x := fun l => by
    rw [h1]
    exact ⟨l.ackle, l.cur, fun p m => (l.parts p m).grow .of h2, l.held, l.rd, l.cw1, l.cw2, l.ini⟩
  exact ⟨by rw [h1]; exact G.s1, by rw [h1]; exact G.s2, by rw [h1]; exact G.b1, by rw [h1]; exact G.b2, h4, fun g m => G.net g (h3 g m), lm G.le, lm G.lo, G.ce, G.co, G.we, G.wo, by rw [h1]; exact G.re, by rw [h1]; exact G.ro, G.bw, G.bo⟩
theorem shown_eq {i : Bool} {e : Endpoint} {em : List (Int × Int)} : (embE i e em).shown = (Kp421.stateCode e : Int) := by
  unfold MEnd.shown Kp421.stateCode
  have st : (embE i e em).state = phN e.phase := rfl
  have pe : (embE i e em).parts.isEmpty = e.outstanding.isEmpty := by
    show (e.outstanding.map prt).isEmpty = _
    exact List.isEmpty_map
  rw [st, pe]
  cases he : e.phase with
  | closed => rfl
  | listening => rfl
  | synSent => rfl
  | synReceived => rfl
  | failed => rfl
  | established =>
    rw [if_neg (by simp [phN])]
    show (if (e.finSent && (e.outstanding.isEmpty && Kp421.finReceived e)) = true then (7 : Int) else if Kp421.finReceived e = true then 6 else if e.finSent = true then 5 else 4) = _
    rw [← Bool.and_assoc]
    show _ = ((if (e.finSent && e.outstanding.isEmpty && Kp421.finReceived e) = true then 7 else if Kp421.finReceived e = true then 6 else if e.finSent = true then 5 else 4 : Nat) : Int)
    split
    · rfl
    · split
      · rfl
      · split <;> rfl
theorem erase_mem {α : Type} : ∀ {l : List α} {k : Nat} {x : α}, x ∈ l.eraseIdx k → x ∈ l
  | [], _, _, h => h
  | _ :: _, 0, _, h => List.mem_cons_of_mem _ h
  | y :: r, k + 1, x, h => by
    rcases List.mem_cons.mp (show x ∈ y :: r.eraseIdx k from h) with q | q
    · rw [q]; exact List.mem_cons_self
    · exact List.mem_cons_of_mem _ (erase_mem q)
theorem erase_mapL {α β : Type} (f : α → β) : ∀ (l : List α) (k : Nat), (l.map f).eraseIdx k = (l.eraseIdx k).map f
  | [], _ => rfl
  | _ :: _, 0 => rfl
  | x :: r, k + 1 => by
    show f x :: (r.map f).eraseIdx k = f x :: (r.eraseIdx k).map f
    rw [erase_mapL f r k]
theorem erase_len {α : Type} (l : List α) (k : Nat) : (l.eraseIdx k).length ≤ l.length := List.length_eraseIdx_le l k
/-! ### deeds on segments -/
theorem net_sim {ini : List Int} {m : MLink} {l : Link} (S : SimL B ini m l) : m.n.segs = l.network.map sg ∧ l.network.length ≤ 60 := by
  obtain ⟨L, a, b, ea, eb, rfl, rfl, h1, h2, G⟩ := S
  exact ⟨rfl, G.nl⟩
theorem segs_at {ini : List Int} {m : MLink} {l : Link} (S : SimL B ini m l) (k : Nat) : m.n.segs[k]? = (l.network[k]?).map sg := by
  rw [(net_sim S).1, List.getElem?_map]
theorem deliver_sim {ini : List Int} {m : MLink} {l : Link} (S : SimL B ini m l) {k : Nat} {s : Segment} (hk : l.network[k]? = some s) :
    ∃ m', deliver m k = some (m', (Kp421.stateCode (Kp421.endpointAt (Kp421.deliver l k) (1 - s.sender)) : Int)) ∧ SimL B ini m' (Kp421.deliver l k) := by
  have hm := segs_at S k
  rw [hk] at hm
  obtain ⟨L, a, b, ea, eb, rfl, rfl, p1, p2, G⟩ := S
  have hk' : L.network[k]? = some s := hk
  have ms := List.mem_of_getElem? hk'
  have G' : Good B false { L with network := L.network.eraseIdx k, deliveredCount := L.deliveredCount + 1 } a b := G.rest rfl (Nat.le_refl _) (fun g m => erase_mem m) (Nat.le_trans (erase_len _ _) G.nl)
  have S' : SimL B ini ⟨{ embN ini L with segs := (embN ini L).segs.eraseIdx k, delivered := (embN ini L).delivered + 1 }, embE false a ea, embE true b eb⟩ (lk false { L with network := L.network.eraseIdx k, deliveredCount := L.deliveredCount + 1 } a b) := by
    refine ⟨_, a, b, ea, eb, ?_, rfl, p1, p2, G'⟩
    have : (embN ini L).segs.eraseIdx k = (L.network.eraseIdx k).map sg := erase_mapL sg L.network k
    rw [this]
    rfl
  unfold deliver Kp421.deliver
  simp only [lk_net, hk']
  have hm2 : (⟨embN ini L, embE false a ea, embE true b eb⟩ : MLink).n.segs[k]? = some (sg s) := hm
  simp only [hm2]
  have go : ∀ j : Bool, (∀ L' e o em, Good B j L' e o → Pm e em → (lk j L' e o = lk false { L with network := L.network.eraseIdx k, deliveredCount := L.deliveredCount + 1 } a b) → SegG o e s) → ∃ m', (MLink.on ⟨{ embN ini L with segs := (embN ini L).segs.eraseIdx k, delivered := (embN ini L).delivered + 1 }, embE false a ea, embE true b eb⟩ j fun n e => recv n e (sg s)) = some m' ∧ SimL B ini m' (Kp421.arrive (lk false { L with network := L.network.eraseIdx k, deliveredCount := L.deliveredCount + 1 } a b) (sd j) s) ∧ (m'.at j).shown = (Kp421.stateCode (Kp421.endpointAt (Kp421.arrive (lk false { L with network := L.network.eraseIdx k, deliveredCount := L.deliveredCount + 1 } a b) (sd j) s) (sd j)) : Int) := fun j hj => by
    obtain ⟨L1, e, o, em, eo, q1, q2, q3, q4, q5, q6, q7⟩ := S'.view j
    obtain ⟨L2, e2, em2, r1, r2, r3, r4, _⟩ := arrive_out (ini := ini) q7 q5 (hj L1 e o em q7 q5 q4.symm)
    refine ⟨MLink.put (embN ini L2) (embE (!j) o eo) j (embE j e2 em2), ?_, ?_, ?_⟩
    · unfold MLink.on
      rw [q1, q2, q3]
      show (recv (embN ini L1) (embE j e em) (sg s)).bind _ = _
      rw [r1]
      rfl
    · rw [q4, r4]
      exact SimL.mk' r2 q6 r3
    · rw [q4, r4, at_e]
      have : (MLink.put (embN ini L2) (embE (!j) o eo) j (embE j e2 em2)).at j = embE j e2 em2 := by cases j <;> rfl
      rw [this, shown_eq]
  rcases G.net s ms with ⟨h1, h2⟩ | ⟨h1, h2⟩
  · obtain ⟨m', t1, t2, t3⟩ := go true fun L' e o em _ _ heq => by
      have e1 : e = b := by
        have := congrArg (fun l => Kp421.endpointAt l 1) heq
        exact this
      have e2 : o = a := by
        have := congrArg (fun l => Kp421.endpointAt l 0) heq
        exact this
      rw [e1, e2]
      exact h2
    have hs0 : s.sender = 0 := h1
    refine ⟨m', ?_, ?_⟩
    · unfold receive
      rw [if_pos (show (sg s).sender = 0 by show (s.sender : Int) = 0; omega)]
      show (Option.bind (MLink.on _ true _) _).bind _ = _
      rw [t1]
      show some (m', (m'.at true).shown) = _
      rw [t3, hs0]
      rfl
    · rw [hs0]
      exact t2
  · obtain ⟨m', t1, t2, t3⟩ := go false fun L' e o em _ _ heq => by
      have e1 : e = a := by
        have := congrArg (fun l => Kp421.endpointAt l 0) heq
        exact this
      have e2 : o = b := by
        have := congrArg (fun l => Kp421.endpointAt l 1) heq
        exact this
      rw [e1, e2]
      exact h2
    have hs1 : s.sender = 1 := h1
    refine ⟨m', ?_, ?_⟩
    · unfold receive
      rw [if_neg (show ¬ (sg s).sender = 0 by show ¬ (s.sender : Int) = 0; omega), if_pos (show (sg s).sender = 1 by show (s.sender : Int) = 1; omega)]
      show (Option.bind (MLink.on _ false _) _).bind _ = _
      rw [t1]
      show some (m', (m'.at false).shown) = _
      rw [t3, hs1]
      rfl
    · rw [hs1]
      exact t2
theorem drop_sim {ini : List Int} {m : MLink} {l : Link} (S : SimL B ini m l) (k : Nat) : SimL B ini (drop m k) (Kp421.drop l k) := by
  obtain ⟨L, a, b, ea, eb, rfl, rfl, p1, p2, G⟩ := S
  have G' : Good B false { L with network := L.network.eraseIdx k, lostCount := L.lostCount + 1 } a b := G.rest rfl (Nat.le_refl _) (fun g m => erase_mem m) (Nat.le_trans (erase_len _ _) G.nl)
  refine ⟨_, a, b, ea, eb, ?_, rfl, p1, p2, G'⟩
  unfold drop
  have : (embN ini L).segs.eraseIdx k = (L.network.eraseIdx k).map sg := erase_mapL sg L.network k
  simp only [this]
  rfl
theorem copy_sim {ini : List Int} {m : MLink} {l : Link} (S : SimL B ini m l) {k : Nat} {s : Segment} (hk : l.network[k]? = some s) (c : l.network.length < 60) : ∃ m', copySegment m k = some m' ∧ SimL B ini m' { l with network := l.network ++ [s] } := by
  have hm := segs_at S k
  rw [hk] at hm
  have hn := (net_sim S).1
  obtain ⟨L, a, b, ea, eb, rfl, rfl, p1, p2, G⟩ := S
  have hk' : L.network[k]? = some s := hk
  have c' : L.network.length < 60 := c
  have G' : Good B false { L with network := L.network ++ [s] } a b := G.rest rfl (Nat.le_refl _) (fun g m => by
    rcases List.mem_append.mp m with m | m
    · exact m
    · rw [List.mem_singleton.mp m]
      exact List.mem_of_getElem? hk') (by show (L.network ++ [s]).length ≤ 60; rw [List.length_append, List.length_singleton]; omega)
  have hm2 : (⟨embN ini L, embE false a ea, embE true b eb⟩ : MLink).n.segs[k]? = some (sg s) := hm
  refine ⟨⟨{ embN ini L with segs := (embN ini L).segs ++ [sg s] }, embE false a ea, embE true b eb⟩, ?_, _, a, b, ea, eb, ?_, rfl, p1, p2, G'⟩
  · unfold copySegment
    rw [if_pos (c := (((⟨embN ini L, embE false a ea, embE true b eb⟩ : MLink).n.segs.length : Nat) : Int) < 60) (show ((((L.network.map sg).length : Nat)) : Int) < 60 by rw [List.length_map]; omega)]
    simp only [hm2]
  · have : (embN ini L).segs ++ [sg s] = (L.network ++ [s]).map sg := by
      rw [List.map_append]
      rfl
    rw [this]
    rfl
theorem post_sim {ini : List Int} {m : MLink} {l : Link} (S : SimL B ini m l) {k : Nat} {s : Segment} (hk : l.network[k]? = some s) : ∃ m', postpone m k = some m' ∧ SimL B ini m' (Kp421.postpone l k) := by
  have hm := segs_at S k
  rw [hk] at hm
  obtain ⟨L, a, b, ea, eb, rfl, rfl, p1, p2, G⟩ := S
  have hk' : L.network[k]? = some s := hk
  have hl := (List.getElem?_eq_some_iff.mp hk').1
  have nl := G.nl
  have el : (L.network.eraseIdx k ++ [s]).length = L.network.length := by
    rw [List.length_append, List.length_singleton, List.length_eraseIdx_of_lt hl]
    omega
  have G' : Good B false { L with network := L.network.eraseIdx k ++ [s] } a b := G.rest rfl (Nat.le_refl _) (fun g m => by
    rcases List.mem_append.mp m with m | m
    · exact erase_mem m
    · rw [List.mem_singleton.mp m]
      exact List.mem_of_getElem? hk') (by show (L.network.eraseIdx k ++ [s]).length ≤ 60; omega)
  have hm2 : (⟨embN ini L, embE false a ea, embE true b eb⟩ : MLink).n.segs[k]? = some (sg s) := hm
  have hp : Kp421.postpone (lk false L a b) k = lk false { L with network := L.network.eraseIdx k ++ [s] } a b := by
    unfold Kp421.postpone
    simp only [lk_net, hk']
    rfl
  rw [hp]
  refine ⟨⟨{ embN ini L with segs := (embN ini L).segs.eraseIdx k ++ [sg s] }, embE false a ea, embE true b eb⟩, ?_, _, a, b, ea, eb, ?_, rfl, p1, p2, G'⟩
  · unfold postpone
    simp only [hm2]
    rw [if_pos (c := (embN ini L).segs.length ≤ 10000) (show (L.network.map sg).length ≤ 10000 by rw [List.length_map]; omega)]
  · have : (embN ini L).segs.eraseIdx k ++ [sg s] = (L.network.eraseIdx k ++ [s]).map sg := by
      rw [List.map_append, ← erase_mapL]
      rfl
    rw [this]
    rfl
end Ws
set_option Elab.async false
set_option linter.all false
set_option maxRecDepth 100000
set_option maxHeartbeats 2000000
set_option pp.maxSteps 400
namespace Ws
open Kp421 (Segment Outstanding Phase Settings Endpoint Link)
variable {B : Nat}
/-! ### the clock -/
theorem timers {ini : List Int} {m : MLink} {l : Link} (S : SimL B ini m l) : m.a.timer = tmN (Kp421.endpointAt l 0).timer ∧ m.b.timer = tmN (Kp421.endpointAt l 1).timer := by
  obtain ⟨L, a, b, ea, eb, rfl, rfl, h1, h2, G⟩ := S
  exact ⟨rfl, rfl⟩
/-- the next timer, both ways -/
theorem next_sim {ini : List Int} {m : MLink} {l : Link} (S : SimL B ini m l) : (nextEnd m = none ∧ Kp421.nextTimer l = none) ∨ ∃ (i : Bool) (t : Nat), nextEnd m = some i ∧ (m.at i).timer = some (t : Int) ∧ Kp421.nextTimer l = some (t, sd i) := by
  obtain ⟨h1, h2⟩ := timers S
  unfold nextEnd Kp421.nextTimer
  rw [h1, h2]
  cases ha : (Kp421.endpointAt l 0).timer with
  | none =>
    cases hb : (Kp421.endpointAt l 1).timer with
    | none => exact .inl ⟨rfl, rfl⟩
    | some u => exact .inr ⟨true, u, rfl, by show m.b.timer = _; rw [h2, hb]; rfl, rfl⟩
  | some t =>
    cases hb : (Kp421.endpointAt l 1).timer with
    | none => exact .inr ⟨false, t, rfl, by show m.a.timer = _; rw [h1, ha]; rfl, rfl⟩
    | some u =>
      refine .inr ?_
      show ∃ (i : Bool) (t' : Nat), (if (u : Int) < (t : Int) then some true else some false) = some i ∧ _ ∧ (if t ≤ u then some (t, 0) else some (u, 1)) = some (t', sd i)
      by_cases c : t ≤ u
      · rw [if_neg (by omega), if_pos c]
        exact ⟨false, t, rfl, by show m.a.timer = _; rw [h1, ha]; rfl, rfl⟩
      · rw [if_pos (by omega), if_neg c]
        exact ⟨true, u, rfl, by show m.b.timer = _; rw [h2, hb]; rfl, rfl⟩
theorem fire_sim {ini : List Int} {m : MLink} {l : Link} (S : SimL B ini m l) {i : Bool} {t : Nat} (ht : (m.at i).timer = some (t : Int)) : ∃ m', fire m i = some m' ∧ SimL B ini m' (Kp421.expire { l with now := max l.now t } (sd i)) := by
  unfold fire
  rw [ht]
  refine on_sim S i (f := fun n e => expire { n with now := pmax n.now (t : Int) } e) (g := fun l => Kp421.expire { l with now := max l.now t } (sd i)) fun L e o em G hp => ?_
  have G' : Good B i { L with now := max L.now t } e o := G.rest rfl (by show L.now ≤ max L.now t; omega) (fun g m => m) G.nl
  have := exp_out (ini := ini) G' hp
  have e1 : ({ embN ini L with now := pmax (embN ini L).now (t : Int) } : MNet) = embN ini { L with now := max L.now t } := by
    have : pmax (embN ini L).now (t : Int) = ((max L.now t : Nat) : Int) := pmax_nat L.now t
    rw [this]
    rfl
  show Out B i ini o (expire { embN ini L with now := pmax (embN ini L).now (t : Int) } (embE i e em)) _
  rw [e1]
  exact this
/-! ### the clock's reading stays -/
theorem now_tx (l : Link) (s : Segment) : (Kp421.transmit l s).now = l.now := (tx_now (L := l) (s := s)).1
theorem now_retx (l : Link) (k : Nat) : (Kp421.retransmit l k).now = l.now := by
  unfold Kp421.retransmit
  simp only
  split
  · rfl
  · split
    · rfl
    · rw [now_tx]
      rfl
theorem now_exp (l : Link) (k : Nat) : (Kp421.expire l k).now = l.now := by
  unfold Kp421.expire
  simp only
  split
  · split
    · rfl
    · unfold Kp421.sendNew
      rw [now_tx]
      rfl
  · split
    · rfl
    · rw [now_retx]
      rfl
theorem fireT_sim {ini : List Int} {m : MLink} {l : Link} (S : SimL B ini m l) : (nextEnd m = none ∧ Kp421.nextTimer l = none ∧ Kp421.fireTimer l = l) ∨ ∃ (i : Bool) (t : Nat) (m' : MLink), nextEnd m = some i ∧ (m.at i).timer = some (t : Int) ∧ Kp421.nextTimer l = some (t, sd i) ∧ fire m i = some m' ∧ SimL B ini m' (Kp421.fireTimer l) ∧ (Kp421.fireTimer l).now = max l.now t := by
  rcases next_sim S with ⟨h1, h2⟩ | ⟨i, t, h1, h2, h3⟩
  · refine .inl ⟨h1, h2, ?_⟩
    unfold Kp421.fireTimer
    rw [h2]
  · obtain ⟨m', f1, f2⟩ := fire_sim S h2
    have e : Kp421.fireTimer l = Kp421.expire { l with now := max l.now t } (sd i) := by
      unfold Kp421.fireTimer
      rw [h3]
    exact .inr ⟨i, t, m', h1, h2, h3, f1, by rw [e]; exact f2, by rw [e, now_exp]⟩
theorem SimL.now {ini : List Int} {m : MLink} {l : Link} (S : SimL B ini m l) : m.n.now = (l.now : Int) := by
  obtain ⟨L, a, b, ea, eb, rfl, rfl, h1, h2, G⟩ := S
  rfl
theorem setnow_sim {ini : List Int} {m : MLink} {l : Link} (S : SimL B ini m l) {t : Nat} (h : l.now ≤ t) : SimL B ini { m with n := { m.n with now := (t : Int) } } { l with now := t } := by
  obtain ⟨L, a, b, ea, eb, rfl, rfl, h1, h2, G⟩ := S
  exact ⟨{ L with now := t }, a, b, ea, eb, rfl, rfl, h1, h2, G.rest rfl h (fun g m => m) G.nl⟩
theorem adv_sim {ini : List Int} {stop : Nat} : ∀ (k fired : Nat) {m : MLink} {l : Link}, SimL B ini m l → l.now ≤ stop →
    ∃ m' l', advLoop (stop : Int) k (fired : Int) m = some (m', ((Kp421.fireUntil stop k l fired).2 : Int)) ∧ SimL B ini m' l' ∧ l'.now ≤ stop ∧ (Kp421.fireUntil stop k l fired).1 = { l' with now := stop }
  | 0, fired, m, l, S, hn => by
    refine ⟨m, l, rfl, S, hn, ?_⟩
    show ({ l with now := max l.now stop } : Link) = _
    rw [Nat.max_eq_right hn]
  | k + 1, fired, m, l, S, hn => by
    unfold advLoop Kp421.fireUntil
    have stay : ({ l with now := max l.now stop } : Link) = { l with now := stop } := by rw [Nat.max_eq_right hn]
    rcases fireT_sim S with ⟨h1, h2, _⟩ | ⟨i, t, m', h1, h2, h3, h4, h5, h6⟩
    · rw [h1, h2]
      exact ⟨m, l, rfl, S, hn, stay⟩
    · rw [h1, h3]
      simp only [h2]
      by_cases c : t ≤ stop
      · rw [if_pos (show (t : Int) ≤ (stop : Int) by omega), if_pos c, h4]
        have ih := adv_sim (stop := stop) k (fired + 1) h5 (by rw [h6]; omega)
        have ef : (fired : Int) + 1 = ((fired + 1 : Nat) : Int) := by omega
        show ∃ m'' l', advLoop (stop : Int) k ((fired : Int) + 1) m' = _ ∧ _
        rw [ef]
        exact ih
      · rw [if_neg (show ¬ (t : Int) ≤ (stop : Int) by omega), if_neg c]
        exact ⟨m, l, rfl, S, hn, stay⟩
/-! ### a run -/
theorem step_sim {ini : List Int} {m : MLink} {l : Link} (S : SimL B ini m l) {f : Nat} (hf : f ≤ 3) : ∃ m', step m (f : Int) = some m' ∧ SimL B ini m' (Kp421.runStep l f) := by
  have hn := (net_sim S).1
  unfold step Kp421.runStep
  cases hl : l.network with
  | nil =>
    rw [hl] at hn
    rw [if_pos (show m.n.segs = [] from hn)]
    simp only
    unfold fireTimer
    rcases fireT_sim S with ⟨h1, h2, h3⟩ | ⟨i, t, m', h1, h2, h3, h4, h5, h6⟩
    · rw [h1, h3]
      exact ⟨m, rfl, S⟩
    · rw [h1]
      simp only [h4]
      exact ⟨m', rfl, h5⟩
  | cons s r =>
    have hk : l.network[0]? = some s := by rw [hl]; rfl
    rw [hl] at hn
    rw [if_neg (show ¬ m.n.segs = [] by rw [hn]; simp)]
    simp only
    by_cases c1 : f = 1
    · rw [if_neg (show ¬ (f : Int) = 0 by omega), if_pos (show (f : Int) = 1 by omega), if_pos c1]
      exact ⟨_, rfl, drop_sim S 0⟩
    · rw [if_neg c1]
      by_cases c2 : f = 2
      · rw [if_neg (show ¬ (f : Int) = 0 by omega), if_neg (show ¬ (f : Int) = 1 by omega), if_pos (show (f : Int) = 2 by omega), if_pos c2]
        by_cases c3 : (s :: r).length < Kp421.maxInFlight
        · rw [if_pos c3]
          obtain ⟨m1, q1, q2⟩ := copy_sim S hk (by rw [hl]; exact c3)
          rw [hl] at q2
          have hk2 : ({ l with network := (s :: r) ++ [s] } : Link).network[0]? = some s := rfl
          obtain ⟨m2, q3, q4⟩ := deliver_sim q2 hk2
          rw [q1]
          show ∃ m', (deliver m1 0).bind (fun r => some r.1) = some m' ∧ _
          rw [q3]
          exact ⟨m2, rfl, q4⟩
        · rw [if_neg c3]
          have hc : copySegment m 0 = some m := by
            unfold copySegment
            rw [if_neg]
            rw [hn, List.length_map]
            unfold Kp421.maxInFlight at c3
            omega
          obtain ⟨m2, q3, q4⟩ := deliver_sim S hk
          rw [hc]
          show ∃ m', (deliver m 0).bind (fun r => some r.1) = some m' ∧ _
          rw [q3]
          exact ⟨m2, rfl, q4⟩
      · rw [if_neg c2]
        by_cases c3 : f = 3
        · rw [if_neg (show ¬ (f : Int) = 0 by omega), if_neg (show ¬ (f : Int) = 1 by omega), if_neg (show ¬ (f : Int) = 2 by omega), if_pos c3]
          exact post_sim S hk
        · rw [if_pos (show (f : Int) = 0 by omega), if_neg c3]
          obtain ⟨m2, q3, q4⟩ := deliver_sim S hk
          rw [q3]
          exact ⟨m2, rfl, q4⟩
theorem steps_sim {ini : List Int} : ∀ {fs : List Nat} {m : MLink} {l : Link}, SimL B ini m l → (∀ f ∈ fs, f ≤ 3) → ∃ m', steps (castL fs) m = some m' ∧ SimL B ini m' (fs.foldl Kp421.runStep l)
  | [], m, l, S, _ => ⟨m, rfl, S⟩
  | f :: r, m, l, S, h => by
    obtain ⟨m1, q1, q2⟩ := step_sim S (h f List.mem_cons_self)
    obtain ⟨m2, q3, q4⟩ := steps_sim q2 fun g mg => h g (List.mem_cons_of_mem _ mg)
    refine ⟨m2, ?_, q4⟩
    show (step m (f : Int)).bind (fun l1 => steps (castL r) l1) = _
    rw [q1]
    exact q3
end Ws
set_option Elab.async false
set_option linter.all false
set_option maxRecDepth 100000
set_option maxHeartbeats 2000000
set_option pp.maxSteps 400
namespace Ws
open Kp421 (Segment Outstanding Phase Settings Endpoint Link)
variable {B : Nat}
theorem Good.mono {C : Nat} {i : Bool} {L : Link} {e o : Endpoint} (G : Good B i L e o) (h : B ≤ C) : Good C i L e o :=
  ⟨G.s1, G.s2, G.b1, G.b2, G.nl, G.net, G.le, G.lo, G.ce, G.co, G.we, G.wo, G.re, G.ro, Nat.le_trans G.bw h, Nat.le_trans G.bo h⟩
theorem SimL.mono {C : Nat} {ini : List Int} {m : MLink} {l : Link} (S : SimL B ini m l) (h : B ≤ C) : SimL C ini m l := by
  obtain ⟨L, a, b, ea, eb, h1, h2, h3, h4, G⟩ := S
  exact ⟨L, a, b, ea, eb, h1, h2, h3, h4, G.mono h⟩
/-- a deed's answer is what is due -/
def DeedOk (B : Nat) (ini : List Int) (f : Ans) (x : Kp421.State × Kp421.Ans) : Prop := ∃ m' l', f = some (m', x.2.num :: x.2.nums) ∧ x.1 = some l' ∧ SimL B ini m' l'
/-- e's connection begins -/
theorem conn_out {i : Bool} {ini : List Int} {L : Link} {e o : Endpoint} {em : List (Int × Int)} (G : Good B i L e o) (hp : Pm e em) (he : e.phase = .closed) :
    Out B i ini o (sendPart (embN ini L) { embE i e em with state := 2 } 1 []) (Kp421.sendNew (Kp421.setEndpoint (lk i L e o) (sd i) { e with phase := .synSent }) (sd i) true false []) := by
  have cu := G.le.cur
  unfold Cur at cu
  rw [he] at cu
  obtain ⟨c1, c2, c3, c4, c5, c6, c7⟩ := cu
  obtain ⟨p1, p2, p3⟩ := G.re.pre (.inl he)
  have cr : Cross { e with phase := .synSent } o := G.ce.rcv
  rw [set_e]
  have G' : Good B i L (sentE L.now { e with phase := .synSent } true false []) o := by
    refine G.put .of ⟨?_, ?_, fun p m => ?_, ?_, G.le.rd, G.le.cw1, G.le.cw2, G.le.ini⟩ cr.rcv G.we (fun hr => ⟨hr.edge, fun z => ?_, fun _ => ⟨p1, p2, p3⟩⟩)
    · show e.acknowledged ≤ e.nextPosition + 1
      omega
    · unfold Cur
      show e.nextPosition + 1 = 1 ∧ e.acknowledged = 0 ∧ e.unsent.drop 0 = e.written ∧ (e.finSent || false) = false ∧ ∃ p, e.outstanding ++ [newO L.now { e with phase := .synSent } true false []] = [p] ∧ p.syn = true
      refine ⟨by omega, c2, by rw [c4, c3]; rfl, by rw [c7]; rfl, newO L.now { e with phase := .synSent } true false [], by rw [c5]; rfl, rfl⟩
    · have m : p ∈ e.outstanding ++ [newO L.now { e with phase := .synSent } true false []] := m
      rw [c5] at m
      rw [List.mem_singleton.mp m]
      exact ⟨Nat.le_refl _, fun _ => ⟨c1, rfl, rfl⟩, fun z => (nomatch z), .nil _ _, Nat.le_refl _, by show e.nextPosition ≤ _; omega⟩
    · show (e.unsent.drop 0).length + ((e.outstanding ++ [newO L.now { e with phase := .synSent } true false []]).map fun (o : Outstanding) => o.payload.length).sum ≤ _
      rw [c4, c5]
      exact Nat.zero_le _
    · rcases z with z | z <;> cases z
  have so := send_out' (ini := ini) (e := { e with phase := .synSent }) (em := em) cr G.le.rd (by show e.outstanding.length ≤ _; rw [c5]; exact Nat.zero_le _) (by show e.nextPosition ≤ _; omega) hp true false [] 1 rfl (fun _ => ⟨c1, rfl, rfl⟩) (fun z => nomatch z) (.nil _ _) G'
  have em1 : embE i (preE { e with phase := .synSent } false []) em = { embE i e em with state := 2 } := by
    unfold preE embE
    simp only [List.length_nil, List.drop_zero, Bool.or_false]
    rfl
  rw [em1] at so
  exact so.out
theorem on_at {ini : List Int} {m : MLink} {l l' : Link} (S : SimL B ini m l) (i : Bool) {C : Nat} {f : MNet → MEnd → Option (MNet × MEnd)} (h : ∀ L e o em, Good B i L e o → Pm e em → l = lk i L e o → m.at i = embE i e em → m.n = embN ini L → Out C i ini o (f (embN ini L) (embE i e em)) l') : ∃ m', m.on i f = some m' ∧ SimL C ini m' l' := by
  obtain ⟨L, e, o, em, eo, h1, h2, h3, h4, p1, p2, G⟩ := S.view i
  obtain ⟨L', e', em', q1, q2, q3, q4, _⟩ := h L e o em G p1 h4 h2 h1
  refine ⟨MLink.put (embN ini L') (embE (!i) o eo) i (embE i e' em'), ?_, ?_⟩
  · unfold MLink.on
    rw [h1, h2, h3, q1]
    rfl
  · rw [q4]
    exact SimL.mk' q2 p2 q3
theorem state_at {ini : List Int} {m : MLink} {l : Link} (S : SimL B ini m l) (i : Bool) : (m.at i).state = phN (Kp421.endpointAt l (sd i)).phase := by
  obtain ⟨L, e, o, em, eo, h1, h2, h3, rfl, p1, p2, G⟩ := S.view i
  rw [h2, at_e]
  rfl
theorem connect_ok {ini : List Int} {m : MLink} {l : Link} (S : SimL B ini m l) : DeedOk B ini (connect m) (Kp421.step (some l) .connect) := by
  have st := state_at S false
  have st2 : m.a.state = phN (Kp421.endpointAt l 0).phase := st
  unfold connect
  show DeedOk B ini _ (if (Kp421.endpointAt l 0).phase = .closed then (some (Kp421.connect l), Kp421.single 0) else (some l, Kp421.single (-16)))
  by_cases c : (Kp421.endpointAt l 0).phase = .closed
  · rw [if_neg (show ¬ m.a.state ≠ 0 by rw [st2, c]; simp [phN]), if_pos c]
    obtain ⟨m', q1, q2⟩ := on_at S false (C := B) (l' := Kp421.connect l) (f := fun n e => sendPart n { e with state := 2 } 1 []) fun L e o em G hp hl _ _ => by
      subst hl
      have he : e.phase = .closed := c
      exact conn_out G hp he
    exact ⟨m', _, by rw [q1]; rfl, rfl, q2⟩
  · rw [if_pos (show m.a.state ≠ 0 by rw [st2]; cases h : (Kp421.endpointAt l 0).phase <;> simp [phN] <;> exact c h), if_neg c]
    exact ⟨m, l, rfl, rfl, S⟩
/-! ### which states bar -/
theorem barred_eq {i : Bool} {e : Endpoint} {em : List (Int × Int)} : barred (embE i e em) = !Kp421.isOpen e := by
  unfold barred Kp421.isOpen
  have st : (embE i e em).state = phN e.phase := rfl
  rw [st]
  cases e.phase <;> rfl
theorem side_at {ini : List Int} {m : MLink} {l : Link} (S : SimL B ini m l) (i : Bool) : ∃ em, m.at i = embE i (Kp421.endpointAt l (sd i)) em ∧ Pm (Kp421.endpointAt l (sd i)) em ∧ m.n.size = (l.settings.segmentSize : Int) ∧ m.n.buffer = (l.settings.buffer : Int) ∧ Loc l.settings l.now (Kp421.endpointAt l (sd i)) ∧ Srt (Kp421.endpointAt l (sd i)).early ∧ (Kp421.endpointAt l (sd i)).early.length ≤ 3840 ∧ (Kp421.endpointAt l (sd i)).written.length ≤ 3840 ∧ l.settings.buffer ≤ 200 := by
  obtain ⟨L, e, o, em, eo, h1, h2, h3, rfl, p1, p2, G⟩ := S.view i
  rw [at_e, h1, h2]
  have := G.ce.len
  have := G.wo
  exact ⟨em, rfl, p1, rfl, rfl, G.le, G.ce.srt, by omega, G.we, G.b2⟩
theorem can_eq {ini : List Int} {m : MLink} {l : Link} (S : SimL B ini m l) (i : Bool) : (barred (m.at i) || (m.at i).closing) = !Kp421.canWrite (Kp421.endpointAt l (sd i)) := by
  obtain ⟨em, h, _⟩ := side_at S i
  rw [h, barred_eq]
  unfold Kp421.canWrite
  show (!Kp421.isOpen _ || (Kp421.endpointAt l (sd i)).closeRequested) = _
  cases Kp421.isOpen (Kp421.endpointAt l (sd i)) <;> cases (Kp421.endpointAt l (sd i)).closeRequested <;> rfl
theorem is_side (i : Bool) : Kp421.isSide (sd i) = true := by cases i <;> rfl
theorem close_ok {ini : List Int} {m : MLink} {l : Link} (S : SimL B ini m l) (i : Bool) : DeedOk B ini (close m i) (Kp421.step (some l) (.close (sd i))) := by
  unfold close
  show DeedOk B ini _ (if Kp421.isSide (sd i) = false then (some l, Kp421.single (-2)) else if Kp421.canWrite (Kp421.endpointAt l (sd i)) then (some (Kp421.close l (sd i)), Kp421.single 0) else (some l, Kp421.single (-16)))
  rw [is_side, if_neg (c := true = false) (by simp), can_eq S i]
  cases c : Kp421.canWrite (Kp421.endpointAt l (sd i)) with
  | false => exact ⟨m, l, rfl, rfl, S⟩
  | true =>
    rw [if_neg (c := (!true) = true) (by simp), if_pos (c := true = true) rfl]
    obtain ⟨m', q1, q2⟩ := on_at S i (C := B) (l' := Kp421.close l (sd i)) (f := fun n e => output n { e with closing := true }) fun L e o em G hp hl _ _ => by
      subst hl
      rw [at_e] at c
      unfold Kp421.canWrite at c
      obtain ⟨c1, c2⟩ := Bool.and_eq_true_iff.mp c
      have c2 : e.closeRequested = false := by simpa using c2
      have G' : Good B i L { e with closeRequested := true } o := by
        have gr : Grow e { e with closeRequested := true } := ⟨rfl, ⟨[], (List.append_nil _).symm, fun _ => rfl⟩, fun _ => rfl⟩
        refine G.put gr ⟨G.le.ackle, ?_, fun p m => (G.le.parts p m).grow gr (Nat.le_refl _), G.le.held, G.le.rd, G.le.cw1, G.le.cw2, G.le.ini⟩ G.ce.rcv G.we
        have cu := G.le.cur
        unfold Kp421.isOpen at c1
        unfold Cur at cu ⊢
        show match e.phase with
          | .closed => _
          | .listening => _
          | .synSent => _
          | .synReceived => _
          | .established => _
          | .failed => _
        cases he : e.phase with
        | closed => rw [he] at c1; cases c1
        | listening => rw [he] at c1; cases c1
        | failed => rw [he] at c1; cases c1
        | synSent => rw [he] at cu; exact cu
        | synReceived => rw [he] at cu; exact cu
        | established =>
          rw [he] at cu
          obtain ⟨a1, a2, a3⟩ := cu
          refine ⟨a1, a2, ?_⟩
          rcases a3 with ⟨b1, b2, b3, b4⟩ | z
          · exact .inl ⟨b1, b2, b3, rfl⟩
          · exact .inr z
      have := output_out (ini := ini) (em := em) G' hp
      unfold Kp421.close
      rw [at_e, set_e]
      exact this
    exact ⟨m', _, by rw [q1]; rfl, rfl, q2⟩
theorem abort_ok {ini : List Int} {m : MLink} {l : Link} (S : SimL B ini m l) (i : Bool) : DeedOk B ini (abort m i) (Kp421.step (some l) (.abort (sd i))) := by
  unfold abort
  show DeedOk B ini _ (if Kp421.isSide (sd i) = false then (some l, Kp421.single (-2)) else if Kp421.isOpen (Kp421.endpointAt l (sd i)) then (some (Kp421.abort l (sd i)), Kp421.single 0) else (some l, Kp421.single (-16)))
  obtain ⟨em0, h0, _⟩ := side_at S i
  rw [is_side, if_neg (c := true = false) (by simp)]
  have hb : barred (m.at i) = !Kp421.isOpen (Kp421.endpointAt l (sd i)) := by rw [h0, barred_eq]
  rw [hb]
  cases c : Kp421.isOpen (Kp421.endpointAt l (sd i)) with
  | false => exact ⟨m, l, rfl, rfl, S⟩
  | true =>
    rw [if_neg (c := (!true) = true) (by simp), if_pos (c := true = true) rfl]
    obtain ⟨m', q1, q2⟩ := on_at S i (C := B) (l' := Kp421.abort l (sd i)) (f := fun n e => (transmit n e 4 e.next []).bind fun n1 => some (n1, e.failed)) fun L e o em G hp hl _ _ => by
      subst hl
      obtain ⟨t1, t2⟩ := tx_out (ini := ini) G hp false false true e.nextPosition [] (next_le G.le) (fun z => nomatch z) (fun z => nomatch z) (.nil _ _)
      have t1' : transmit (embN ini L) (embE i e em) 4 (embE i e em).next [] = _ := t1
      show Out B i ini o ((transmit (embN ini L) (embE i e em) 4 (embE i e em).next []).bind _) _
      rw [t1']
      refine ⟨_, Kp421.fail e, em, rfl, hp, fail_good t2, ?_, trivial⟩
      unfold Kp421.abort
      rw [at_e, set_e, lk_set, lk_tx]
      rfl
    exact ⟨m', _, by rw [q1]; rfl, rfl, q2⟩
theorem read_ok {ini : List Int} {m : MLink} {l : Link} (S : SimL B ini m l) (i : Bool) (k : Nat) : DeedOk B ini (read m i (k : Int)) (Kp421.step (some l) (.read (sd i) k)) := by
  obtain ⟨em0, h0, hp0, _, _, loc, _, el, wl, b2⟩ := side_at S i
  have rd := loc.rd
  have held := loc.held
  have pl := out_len loc
  unfold Kp421.buffered at held
  unfold read
  show DeedOk B ini _ (if Kp421.isSide (sd i) = true then (some (Kp421.read l (sd i) k), Kp421.listResult ((Kp421.endpointAt l (sd i)).readable.take k)) else (some l, Kp421.single (-2)))
  rw [is_side, if_pos rfl]
  have gd : 0 ≤ (k : Int) ∧ BdE (m.at i) := by
    refine ⟨Int.natCast_nonneg _, ?_⟩
    rw [h0]
    refine ⟨?_, ?_, ?_, ?_⟩
    · show em0.length ≤ 10000
      rw [pm_len hp0]
      omega
    · show ((Kp421.endpointAt l (sd i)).outstanding.map prt).length ≤ 10000
      rw [List.length_map]
      omega
    · show (castL (Kp421.endpointAt l (sd i)).unsent).length ≤ 10000
      rw [ints_len]
      omega
    · show (castL (Kp421.endpointAt l (sd i)).readable).length ≤ 10000
      rw [ints_len]
      omega
  rw [if_pos gd]
  obtain ⟨m', q1, q2⟩ := on_at S i (C := B) (l' := Kp421.read l (sd i) k) (f := fun n e => if win n e = 0 ∧ win n (readE e (k : Int)) > 0 ∧ e.state = 4 then (sendAck n (readE e (k : Int))).bind fun n1 => some (n1, readE e (k : Int)) else some (n, readE e (k : Int))) fun L e o em G hp hl _ _ => by
    subst hl
    have dl : (e.readable.drop k).length ≤ e.readable.length := by rw [List.length_drop]; omega
    have hrd := G.le.rd
    have G' : Good B i L { e with readable := e.readable.drop k, consumed := e.consumed ++ e.readable.take k } o :=
      G.put .of ⟨G.le.ackle, G.le.cur, fun p m => (G.le.parts p m).grow .of (Nat.le_refl _), G.le.held, Nat.le_trans dl G.le.rd, G.le.cw1, G.le.cw2, G.le.ini⟩ G.ce.rcv G.we (fun h => ⟨fun x m => by
        have := h.edge x m
        show x.1 < e.expected + (L.settings.buffer - (e.readable.drop k).length)
        omega, h.exq, h.pre⟩)
    have em1 : readE (embE i e em) (k : Int) = embE i { e with readable := e.readable.drop k, consumed := e.consumed ++ e.readable.take k } em := by
      unfold readE
      have tk : ((k : Int)).toNat = k := Int.toNat_natCast k
      rw [tk]
      show ({ embE i e em with readable := (castL e.readable).drop k, consumed := (e.consumed.length : Int) + (((castL e.readable).take k).length : Int) } : MEnd) = _
      rw [ints_drop, ints_take, ints_len]
      have : (e.consumed.length : Int) + ((e.readable.take k).length : Int) = ((e.consumed ++ e.readable.take k).length : Int) := by rw [List.length_append]; omega
      rw [this]
      rfl
    have w1 := win_eq (ini := ini) (i := i) (em := em) G.le.rd
    have w2 := win_eq (ini := ini) (i := i) (em := em) G'.le.rd
    show Out B i ini o (if win (embN ini L) (embE i e em) = 0 ∧ win (embN ini L) (readE (embE i e em) (k : Int)) > 0 ∧ (embE i e em).state = 4 then (sendAck (embN ini L) (readE (embE i e em) (k : Int))).bind fun n1 => some (n1, readE (embE i e em) (k : Int)) else some (embN ini L, readE (embE i e em) (k : Int))) _
    rw [em1, w1, w2]
    unfold Kp421.read
    simp only [at_e, set_e, lk_set]
    by_cases c : Kp421.windowOf L.settings e = 0 ∧ 0 < Kp421.windowOf L.settings { e with readable := e.readable.drop k, consumed := e.consumed ++ e.readable.take k } ∧ e.phase = .established
    · rw [if_pos ⟨by omega, by omega, state_est.mpr c.2.2⟩, if_pos c]
      exact (ack_out G' hp).out
    · rw [if_neg (fun z => c ⟨by omega, by omega, state_est.mp z.2.2⟩), if_neg c]
      exact Out.of G' hp
  refine ⟨m', _, ?_, rfl, q2⟩
  rw [q1]
  have tk : ((k : Int)).toNat = k := Int.toNat_natCast k
  rw [tk, h0]
  show some (m', (((castL (Kp421.endpointAt l (sd i)).readable).take k).length : Int) :: (castL (Kp421.endpointAt l (sd i)).readable).take k) = _
  rw [ints_take, ints_len]
  rfl
end Ws
set_option Elab.async false
set_option linter.all false
set_option maxRecDepth 100000
set_option maxHeartbeats 2000000
set_option pp.maxSteps 400
namespace Ws
open Kp421 (Segment Outstanding Phase Settings Endpoint Link)
variable {B : Nat}
theorem sum_prt (ps : List Outstanding) : ((ps.map prt).map fun p => (p.payload.length : Int)).sum = (((ps.map fun o => o.payload.length).sum : Nat) : Int) := by
  induction ps with
  | nil => rfl
  | cons p r ih =>
    rw [List.map_cons, List.map_cons, List.sum_cons, ih, List.map_cons, List.sum_cons]
    show ((castL p.payload).length : Int) + _ = _
    rw [ints_len]
    omega
theorem held_eq {i : Bool} {e : Endpoint} {em : List (Int × Int)} : (embE i e em).held = (Kp421.buffered e : Int) := by
  unfold MEnd.held Kp421.buffered
  show ((castL e.unsent).length : Int) + ((e.outstanding.map prt).map fun p => (p.payload.length : Int)).sum = _
  rw [ints_len, sum_prt]
  omega
theorem any_eq' (bs : List Nat) (c : Nat) : ((castL bs).any fun x => decide ((c : Int) < x)) = bs.any fun b => decide (c < b) := by
  unfold castL
  rw [List.any_map]
  congr 1
  funext x
  exact decide_eq_decide.mpr (by show (c : Int) < (x : Int) ↔ _; omega)
theorem write_good {i : Bool} {L : Link} {e o : Endpoint} (G : Good B i L e o) (c : Kp421.canWrite e = true) {x : List Nat} (hx : x.length ≤ 64) (hr : x.length ≤ L.settings.buffer - Kp421.buffered e) (hB : B + 64 ≤ 3840) :
    Good (B + 64) i L { e with unsent := e.unsent ++ x, written := e.written ++ x } o := by
  unfold Kp421.canWrite at c
  obtain ⟨c1, c2⟩ := Bool.and_eq_true_iff.mp c
  have c2 : e.closeRequested = false := by simpa using c2
  have gr : Grow e { e with unsent := e.unsent ++ x, written := e.written ++ x } := ⟨rfl, ⟨x, rfl, fun z => by rw [c2] at z; cases z⟩, fun z => z⟩
  have bw := G.bw
  have hl : (e.written ++ x).length = e.written.length + x.length := List.length_append
  have hd := G.le.held
  refine (G.mono (show B ≤ B + 64 by omega)).put gr ⟨G.le.ackle, ?_, fun p m => (G.le.parts p m).grow gr (Nat.le_refl _), ?_, G.le.rd, G.le.cw1, G.le.cw2, G.le.ini⟩ G.ce.rcv (by show (e.written ++ x).length ≤ 3840; omega) (fun h => ⟨h.edge, h.exq, h.pre⟩) (fun _ => by show (e.written ++ x).length ≤ B + 64; omega)
  · have cu := G.le.cur
    unfold Kp421.isOpen at c1
    unfold Cur at cu ⊢
    show match e.phase with
      | .closed => _
      | .listening => _
      | .synSent => _
      | .synReceived => _
      | .established => _
      | .failed => _
    cases he : e.phase with
    | closed => rw [he] at c1; cases c1
    | listening => rw [he] at c1; cases c1
    | failed => rw [he] at c1; cases c1
    | synSent =>
      rw [he] at cu
      obtain ⟨a1, a2, a3, a4, a5⟩ := cu
      exact ⟨a1, a2, by show e.unsent ++ x = e.written ++ x; rw [a3], a4, a5⟩
    | synReceived =>
      rw [he] at cu
      obtain ⟨a1, a2, a3, a4, a5⟩ := cu
      exact ⟨a1, a2, by show e.unsent ++ x = e.written ++ x; rw [a3], a4, a5⟩
    | established =>
      rw [he] at cu
      obtain ⟨a1, a2, a3⟩ := cu
      refine ⟨a1, a2, ?_⟩
      rcases a3 with ⟨_, _, _, z⟩ | ⟨b1, b2, b3⟩
      · rw [c2] at z
        cases z
      · refine .inr ⟨b1, by show e.nextPosition ≤ (e.written ++ x).length + 1; omega, ?_⟩
        show e.unsent ++ x = (e.written ++ x).drop (e.nextPosition - 1)
        rw [List.drop_append_of_le_length (by omega), ← b3]
  · unfold Kp421.buffered at hd hr ⊢
    show (e.unsent ++ x).length + _ ≤ _
    rw [List.length_append]
    show e.unsent.length + x.length + (e.outstanding.map fun o => o.payload.length).sum ≤ _
    omega
theorem write_ok {ini : List Int} {m : MLink} {l : Link} (S : SimL B ini m l) (i : Bool) (bs : List Nat) (hb : bs.length ≤ 64) (hB : B + 64 ≤ 3840) : DeedOk (B + 64) ini (write m i (castL bs)) (Kp421.step (some l) (.write (sd i) bs)) := by
  obtain ⟨em0, h0, hp0, _, hbuf, loc, _, el, wl, b2⟩ := side_at S i
  have S2 := S.mono (show B ≤ B + 64 by omega)
  have rd := loc.rd
  have held := loc.held
  have pl := out_len loc
  unfold write
  show DeedOk (B + 64) ini _ (if Kp421.isSide (sd i) = false then (some l, Kp421.single (-2)) else if bs.any (fun b => decide (255 < b)) = true then (some l, Kp421.single (-22)) else if Kp421.canWrite (Kp421.endpointAt l (sd i)) = false then (some l, Kp421.single (-16)) else (some (Kp421.write l (sd i) (bs.take (Kp421.room l (sd i)))), Kp421.single (min bs.length (Kp421.room l (sd i)) : Nat)))
  rw [is_side, if_neg (c := true = false) (by simp)]
  have ha : ((castL bs).any fun x => decide (255 < x)) = bs.any fun b => decide (255 < b) := any_eq' bs 255
  rw [ha]
  by_cases c0 : (bs.any fun b => decide (255 < b)) = true
  · rw [if_pos c0, if_pos c0]
    exact ⟨m, l, rfl, rfl, S2⟩
  rw [if_neg c0, if_neg c0, can_eq S i]
  cases c : Kp421.canWrite (Kp421.endpointAt l (sd i)) with
  | false => exact ⟨m, l, rfl, rfl, S2⟩
  | true =>
    rw [if_neg (c := (!true) = true) (by simp), if_neg (c := true = false) (by simp)]
    have hh : m.n.buffer - (m.at i).held = ((l.settings.buffer - Kp421.buffered (Kp421.endpointAt l (sd i)) : Nat) : Int) := by
      rw [hbuf, h0, held_eq]
      omega
    have room : Kp421.room l (sd i) = l.settings.buffer - Kp421.buffered (Kp421.endpointAt l (sd i)) := rfl
    rw [room]
    have held2 := held
    unfold Kp421.buffered at held2
    have gd : 0 ≤ m.n.buffer - (m.at i).held ∧ BdE (m.at i) ∧ (castL bs).length ≤ 10000 := by
      rw [hh, ints_len]
      refine ⟨by omega, ?_, by omega⟩
      rw [h0]
      refine ⟨?_, ?_, ?_, ?_⟩
      · show em0.length ≤ 10000
        rw [pm_len hp0]
        omega
      · show ((Kp421.endpointAt l (sd i)).outstanding.map prt).length ≤ 10000
        rw [List.length_map]
        omega
      · show (castL (Kp421.endpointAt l (sd i)).unsent).length ≤ 10000
        rw [ints_len]
        omega
      · show (castL (Kp421.endpointAt l (sd i)).readable).length ≤ 10000
        rw [ints_len]
        omega
    rw [if_pos gd, hh, Int.toNat_natCast, ints_take, ints_len]
    generalize er : l.settings.buffer - Kp421.buffered (Kp421.endpointAt l (sd i)) = r
    obtain ⟨m', q1, q2⟩ := on_at S i (C := B + 64) (l' := Kp421.write l (sd i) (bs.take r)) (f := fun n e => output n { e with unsent := e.unsent ++ castL (bs.take r), written := e.written + ((bs.take r).length : Int) }) fun L e o em G hp hl _ _ => by
      subst hl
      rw [at_e] at c er
      have tl : (bs.take r).length = min r bs.length := List.length_take
      have G' := write_good G c (x := bs.take r) (by omega) (by rw [lk_set] at er; omega) hB
      have em1 : ({ embE i e em with unsent := (embE i e em).unsent ++ castL (bs.take r), written := (embE i e em).written + ((bs.take r).length : Int) } : MEnd) = embE i { e with unsent := e.unsent ++ bs.take r, written := e.written ++ bs.take r } em := by
        show ({ embE i e em with unsent := castL e.unsent ++ castL (bs.take r), written := (e.written.length : Int) + ((bs.take r).length : Int) } : MEnd) = _
        rw [ints_app]
        have : (e.written.length : Int) + ((bs.take r).length : Int) = ((e.written ++ bs.take r).length : Int) := by rw [List.length_append]; omega
        rw [this]
        rfl
      show Out (B + 64) i ini o (output (embN ini L) _) _
      rw [em1]
      have := output_out (ini := ini) (em := em) G' hp
      unfold Kp421.write
      rw [at_e, set_e]
      exact this
    refine ⟨m', _, ?_, rfl, q2⟩
    rw [q1]
    show some (m', [((bs.take r).length : Int)]) = some (m', [((min bs.length r : Nat) : Int)])
    rw [List.length_take, Nat.min_comm]
end Ws
set_option Elab.async false
set_option linter.all false
set_option maxRecDepth 100000
set_option maxHeartbeats 2000000
set_option pp.maxSteps 400
namespace Ws
open Kp421 (Segment Outstanding Phase Settings Endpoint Link)
variable {B : Nat}
theorem fm_cast {α β : Type} {a : α → β} {b : β → List Int} {c : α → List Nat} (h : ∀ x, b (a x) = castL (c x)) (l : List α) : (l.map a).flatMap b = castL (l.flatMap c) := by
  induction l with
  | nil => rfl
  | cons x r ih =>
    rw [List.map_cons, List.flatMap_cons, List.flatMap_cons, ih, h, ints_app]
theorem segs_len {ini : List Int} {m : MLink} {l : Link} (S : SimL B ini m l) : m.n.segs.length = l.network.length := by
  rw [(net_sim S).1, List.length_map]
theorem list_ok {ini : List Int} {m : MLink} {l : Link} (S : SimL B ini m l) : DeedOk B ini (listSegments m) (Kp421.step (some l) .listSegments) := by
  obtain ⟨h1, h2⟩ := net_sim S
  have hl := segs_len S
  unfold listSegments
  rw [if_pos (by omega), hl, h1]
  rw [fm_cast (b := segRow) (c := fun s => [s.sender, Kp421.flagsOf s, s.sequence, s.payload.length]) (fun s => by
    unfold segRow
    show [(s.sender : Int), (Kp421.flagsOf s : Int), (s.sequence : Int), ((castL s.payload).length : Int)] = _
    rw [ints_len]
    rfl)]
  exact ⟨m, l, rfl, rfl, S⟩
theorem show_row (s : Segment) : showSegment (sg s) = (s.sender : Int) :: castL ([Kp421.flagsOf s, s.sequence, s.ack, s.window, s.blocks.length] ++ (s.blocks.flatMap fun b => [b.1, b.2]) ++ s.payload) := by
  unfold showSegment
  rw [← ints_app, ← ints_app]
  have hb : ((sg s).blocks.flatMap fun b => [b.1, b.2]) = castL (s.blocks.flatMap fun b => [b.1, b.2]) := fm_cast (a := pair) (fun b => rfl) s.blocks
  have hl : (sg s).blocks.length = s.blocks.length := List.length_map ..
  rw [hb, hl]
  rfl
theorem get_ok {ini : List Int} {m : MLink} {l : Link} (S : SimL B ini m l) (k : Nat) : DeedOk B ini (segmentDeed m 7 (k : Int)) (Kp421.step (some l) (.getSegment k)) := by
  obtain ⟨h1, h2⟩ := net_sim S
  have hl := segs_len S
  unfold segmentDeed
  show DeedOk B ini _ (some l, match l.network[k]? with
    | none => Kp421.single (-2)
    | some s => Kp421.natResult s.sender ([Kp421.flagsOf s, s.sequence, s.ack, s.window, s.blocks.length] ++ (s.blocks.flatMap fun b => [b.1, b.2]) ++ s.payload))
  cases hk : l.network[k]? with
  | none =>
    have := List.getElem?_eq_none_iff.mp hk
    rw [if_pos (by omega)]
    exact ⟨m, l, rfl, rfl, S⟩
  | some s =>
    have hlt := (List.getElem?_eq_some_iff.mp hk).1
    rw [if_neg (by omega), if_neg (by omega), if_pos rfl, Int.toNat_natCast, segs_at S, hk]
    have pb : (sg s).payload.length ≤ 10000 ∧ (sg s).blocks.length ≤ 10000 := by
      obtain ⟨L, a, b, ea, eb, rfl, rfl, p1, p2, G⟩ := S
      have ms : s ∈ L.network := List.mem_of_getElem? hk
      have we := G.we
      have wo := G.wo
      have key : ∀ {e o : Endpoint}, SegG e o s → e.written.length ≤ 3840 → (sg s).payload.length ≤ 10000 ∧ (sg s).blocks.length ≤ 10000 := fun g w => by
        obtain ⟨pos, _, _, _, _, h5⟩ := g.pos
        have hb := g.bl
        refine ⟨?_, ?_⟩
        · show (castL s.payload).length ≤ 10000
          rw [ints_len]
          rcases h5.le with z | z
          · rw [z]; exact Nat.zero_le _
          · omega
        · show (s.blocks.map pair).length ≤ 10000
          rw [List.length_map]
          omega
      rcases G.net s ms with ⟨_, z⟩ | ⟨_, z⟩
      · exact key z we
      · exact key z wo
    simp only [Option.map_some]
    rw [if_pos pb, show_row]
    exact ⟨m, l, rfl, rfl, S⟩
theorem del_ok {ini : List Int} {m : MLink} {l : Link} (S : SimL B ini m l) (k : Nat) : DeedOk B ini (segmentDeed m 8 (k : Int)) (Kp421.step (some l) (.deliver k)) := by
  obtain ⟨h1, h2⟩ := net_sim S
  have hl := segs_len S
  unfold segmentDeed
  show DeedOk B ini _ (match l.network[k]? with
    | none => (some l, Kp421.single (-2))
    | some s => (some (Kp421.deliver l k), Kp421.single (Kp421.stateCode (Kp421.endpointAt (Kp421.deliver l k) (1 - s.sender)) : Nat)))
  cases hk : l.network[k]? with
  | none =>
    have := List.getElem?_eq_none_iff.mp hk
    rw [if_pos (by omega)]
    exact ⟨m, l, rfl, rfl, S⟩
  | some s =>
    have hlt := (List.getElem?_eq_some_iff.mp hk).1
    rw [if_neg (by omega), if_neg (by omega), if_neg (by decide), if_pos rfl, Int.toNat_natCast]
    obtain ⟨m', q1, q2⟩ := deliver_sim S hk
    rw [q1]
    exact ⟨m', _, rfl, rfl, q2⟩
theorem chg_ok {ini : List Int} {m m' : MLink} {l l' : Link} (S : SimL B ini m l) {k : Nat} (h : k < l.network.length) (S' : SimL B ini m' l') : DeedOk B ini (ans m' [(m'.n.segs.length : Int)]) (Kp421.changeSegment l k l') := by
  unfold Kp421.changeSegment Kp421.isIndex
  rw [if_pos (decide_eq_true h), segs_len S']
  exact ⟨m', l', rfl, rfl, S'⟩
theorem drp_ok {ini : List Int} {m : MLink} {l : Link} (S : SimL B ini m l) (k : Nat) : DeedOk B ini (segmentDeed m 9 (k : Int)) (Kp421.step (some l) (.drop k)) := by
  obtain ⟨h1, h2⟩ := net_sim S
  have hl := segs_len S
  unfold segmentDeed
  show DeedOk B ini _ (Kp421.changeSegment l k (Kp421.drop l k))
  by_cases c : k < l.network.length
  · rw [if_neg (by omega), if_neg (by omega), if_neg (by decide), if_neg (by decide), if_neg (by rintro ⟨z, _⟩; exact absurd z (by decide)), if_pos rfl, Int.toNat_natCast]
    exact chg_ok S c (drop_sim S k)
  · rw [if_pos (by omega)]
    unfold Kp421.changeSegment Kp421.isIndex
    rw [if_neg (by rw [decide_eq_false c]; exact Bool.false_ne_true)]
    exact ⟨m, l, rfl, rfl, S⟩
theorem dup_ok {ini : List Int} {m : MLink} {l : Link} (S : SimL B ini m l) (k : Nat) : DeedOk B ini (segmentDeed m 10 (k : Int)) (Kp421.step (some l) (.duplicate k)) := by
  obtain ⟨h1, h2⟩ := net_sim S
  have hl := segs_len S
  unfold segmentDeed
  show DeedOk B ini _ (if Kp421.isIndex l k = false then (some l, Kp421.single (-2)) else if 60 ≤ l.network.length then (some l, Kp421.single (-28)) else Kp421.changeSegment l k (Kp421.duplicate l k))
  by_cases c : k < l.network.length
  · rw [if_neg (show ¬ (k : Int) ≥ _ by omega), if_neg (show ¬ ((k : Int) < 0 ∨ _) by omega), if_neg (by decide), if_neg (by decide), if_neg (show ¬ Kp421.isIndex l k = false by unfold Kp421.isIndex; rw [decide_eq_true c]; simp)]
    by_cases c6 : l.network.length = 60
    · rw [if_pos ⟨rfl, by omega⟩, if_pos (by omega)]
      exact ⟨m, l, rfl, rfl, S⟩
    · rw [if_neg (by rintro ⟨_, z⟩; omega), if_neg (c := (10 : Int) = 9) (by decide), if_pos (c := (10 : Int) = 10) rfl, if_neg (c := 60 ≤ l.network.length) (by omega), Int.toNat_natCast]
      have hk : l.network[k]? = some l.network[k] := List.getElem?_eq_getElem c
      obtain ⟨m', q1, q2⟩ := copy_sim S hk (by omega)
      have ed : Kp421.duplicate l k = { l with network := l.network ++ [l.network[k]] } := by
        unfold Kp421.duplicate
        simp only [hk]
      rw [q1, ed]
      exact chg_ok S c q2
  · rw [if_pos (show (k : Int) ≥ _ by omega), if_pos (show Kp421.isIndex l k = false by unfold Kp421.isIndex; exact decide_eq_false c)]
    exact ⟨m, l, rfl, rfl, S⟩
theorem pst_ok {ini : List Int} {m : MLink} {l : Link} (S : SimL B ini m l) (k : Nat) : DeedOk B ini (segmentDeed m 11 (k : Int)) (Kp421.step (some l) (.postpone k)) := by
  obtain ⟨h1, h2⟩ := net_sim S
  have hl := segs_len S
  unfold segmentDeed
  show DeedOk B ini _ (Kp421.changeSegment l k (Kp421.postpone l k))
  by_cases c : k < l.network.length
  · rw [if_neg (by omega), if_neg (by omega), if_neg (by decide), if_neg (by decide), if_neg (by rintro ⟨z, _⟩; exact absurd z (by decide)), if_neg (by decide), if_neg (by decide), Int.toNat_natCast]
    have hk : l.network[k]? = some l.network[k] := List.getElem?_eq_getElem c
    obtain ⟨m', q1, q2⟩ := post_sim S hk
    rw [q1]
    exact chg_ok S c q2
  · rw [if_pos (by omega)]
    unfold Kp421.changeSegment Kp421.isIndex
    rw [if_neg (by rw [decide_eq_false c]; exact Bool.false_ne_true)]
    exact ⟨m, l, rfl, rfl, S⟩
/-! ### the clock's deeds -/
theorem advance_ok {ini : List Int} {m : MLink} {l : Link} (S : SimL B ini m l) (d : Nat) : DeedOk B ini (advance m (d : Int)) (Kp421.step (some l) (.advance d)) := by
  unfold advance
  show DeedOk B ini _ (if 100000 < d then (some l, Kp421.single (-22)) else (some (Kp421.fireUntil (l.now + d) 10000 l 0).1, Kp421.natResult (Kp421.fireUntil (l.now + d) 10000 l 0).2 [(Kp421.fireUntil (l.now + d) 10000 l 0).1.now]))
  by_cases c : 100000 < d
  · rw [if_pos (by omega), if_pos c]
    exact ⟨m, l, rfl, rfl, S⟩
  · rw [if_neg (by omega), if_neg c]
    obtain ⟨m', l', q1, q2, q3, q4⟩ := adv_sim (stop := l.now + d) 10000 0 S (by omega)
    have en : m.n.now + (d : Int) = ((l.now + d : Nat) : Int) := by rw [S.now]; omega
    rw [en, q4]
    have q1' : advLoop ((l.now + d : Nat) : Int) 10000 0 m = _ := q1
    rw [q1']
    exact ⟨_, _, rfl, rfl, setnow_sim q2 q3⟩
theorem side_val {ini : List Int} {m : MLink} {l : Link} (S : SimL B ini m l) (i : Bool) : (m.at i).side = (sd i : Int) := by
  obtain ⟨em, h, _⟩ := side_at S i
  rw [h]
  exact side_eq i
theorem next_ok {ini : List Int} {m : MLink} {l : Link} (S : SimL B ini m l) : DeedOk B ini (nextTimer m) (Kp421.step (some l) .nextTimer) := by
  unfold nextTimer
  show DeedOk B ini _ (some l, match Kp421.nextTimer l with
    | none => Kp421.single (-33)
    | some x => Kp421.natResult x.1 [x.2])
  rcases next_sim S with ⟨h1, h2⟩ | ⟨i, t, h1, h2, h3⟩
  · rw [h1, h2]
    exact ⟨m, l, rfl, rfl, S⟩
  · rw [h1, h3]
    simp only [h2]
    rw [side_val S i]
    exact ⟨m, l, rfl, rfl, S⟩
theorem fire_ok {ini : List Int} {m : MLink} {l : Link} (S : SimL B ini m l) : DeedOk B ini (fireTimer m) (Kp421.step (some l) .fireTimer) := by
  unfold fireTimer
  show DeedOk B ini _ (match Kp421.nextTimer l with
    | none => (some l, Kp421.single (-33))
    | some x => (some (Kp421.fireTimer l), Kp421.natResult x.2 [(Kp421.fireTimer l).now]))
  rcases fireT_sim S with ⟨h1, h2, h3⟩ | ⟨i, t, m', h1, h2, h3, h4, h5, h6⟩
  · rw [h1, h2]
    exact ⟨m, l, rfl, rfl, S⟩
  · rw [h1, h3]
    simp only [h4]
    refine ⟨m', _, ?_, rfl, h5⟩
    show some (m', [(m'.at i).side, m'.n.now]) = _
    rw [side_val h5 i, h5.now]
    rfl
theorem run_ok {ini : List Int} {m : MLink} {l : Link} (S : SimL B ini m l) (fs : List Nat) : DeedOk B ini (run m (castL fs)) (Kp421.step (some l) (.run fs)) := by
  unfold run
  show DeedOk B ini _ (if 64 < fs.length ∨ fs.any (fun f => decide (3 < f)) = true then (some l, Kp421.single (-22)) else (some (fs.foldl Kp421.runStep l), Kp421.natResult (fs.foldl Kp421.runStep l).network.length [(fs.foldl Kp421.runStep l).now]))
  have ha : ((castL fs).any fun x => decide (3 < x)) = fs.any fun b => decide (3 < b) := any_eq' fs 3
  rw [ha, ints_len]
  by_cases c : 64 < fs.length ∨ fs.any (fun f => decide (3 < f)) = true
  · rw [if_pos (c.imp (fun z => by omega) id), if_pos c]
    exact ⟨m, l, rfl, rfl, S⟩
  · rw [if_neg (fun z => c (z.imp (fun z => by omega) id)), if_neg c]
    have hf : ∀ f ∈ fs, f ≤ 3 := fun f mf => by
      have h2 : ¬ (fs.any fun f => decide (3 < f)) = true := fun z => c (.inr z)
      rw [List.any_eq_true] at h2
      have : ¬ 3 < f := fun z => h2 ⟨f, mf, decide_eq_true z⟩
      omega
    obtain ⟨m', q1, q2⟩ := steps_sim S hf
    refine ⟨m', _, ?_, rfl, q2⟩
    rw [q1]
    show some (m', [(m'.n.segs.length : Int), m'.n.now]) = _
    rw [segs_len q2, q2.now]
    rfl
end Ws
set_option Elab.async false
set_option linter.all false
set_option maxRecDepth 100000
set_option maxHeartbeats 2000000
set_option pp.maxSteps 400
namespace Ws
open Kp421 (Segment Outstanding Phase Settings Endpoint Link)
variable {B : Nat}
/-! ### questions -/
theorem status_ok {ini : List Int} {m : MLink} {l : Link} (S : SimL B ini m l) (i : Bool) : DeedOk B ini (status m i) (Kp421.step (some l) (.status (sd i))) := by
  obtain ⟨em, h, hp, _, hb, loc, srt, el, wl, b2⟩ := side_at S i
  show DeedOk B ini _ (some l, if Kp421.isSide (sd i) = true then Kp421.natResult (Kp421.stateCode (Kp421.endpointAt l (sd i))) [(Kp421.endpointAt l (sd i)).unsent.length, Kp421.inFlight (Kp421.endpointAt l (sd i)), (Kp421.endpointAt l (sd i)).readable.length, (Kp421.endpointAt l (sd i)).early.length, Kp421.windowOf l.settings (Kp421.endpointAt l (sd i)), (Kp421.endpointAt l (sd i)).peerWindow] else Kp421.single (-2))
  rw [is_side, if_pos rfl]
  unfold status
  simp only [h]
  generalize Kp421.endpointAt l (sd i) = e at *
  have a1 : (embE i e em).shown = (Kp421.stateCode e : Int) := shown_eq
  have a2 : ((embE i e em).unsent.length : Int) = (e.unsent.length : Int) := congrArg Int.ofNat (ints_len _)
  have a3 := infl_eq (i := i) (em := em) loc.ackle
  have a4 : ((embE i e em).readable.length : Int) = (e.readable.length : Int) := congrArg Int.ofNat (ints_len _)
  have a5 : ((embE i e em).early.length : Int) = (e.early.length : Int) := congrArg Int.ofNat (pm_len hp)
  have a6 : win m.n (embE i e em) = (Kp421.windowOf l.settings e : Int) := by
    have := loc.rd
    unfold win Kp421.windowOf
    rw [hb]
    show (l.settings.buffer : Int) - ((castL e.readable).length : Int) = _
    rw [ints_len]
    omega
  rw [a1, a2, a3, a4, a5, a6]
  exact ⟨m, l, rfl, rfl, S⟩
theorem cong_ok {ini : List Int} {m : MLink} {l : Link} (S : SimL B ini m l) (i : Bool) : DeedOk B ini (congestion m i) (Kp421.step (some l) (.congestion (sd i))) := by
  obtain ⟨em, h, hp, _, hb, loc, srt, el, wl, b2⟩ := side_at S i
  show DeedOk B ini _ (some l, if Kp421.isSide (sd i) = true then Kp421.natResult (Kp421.endpointAt l (sd i)).congestionWindow ([(Kp421.endpointAt l (sd i)).threshold, (Kp421.endpointAt l (sd i)).timeout, (Kp421.endpointAt l (sd i)).duplicateAcks, (Kp421.endpointAt l (sd i)).retransmissions] ++ Kp421.roundTripList (Kp421.endpointAt l (sd i))) else Kp421.single (-2))
  rw [is_side, if_pos rfl]
  unfold congestion
  simp only [h]
  generalize Kp421.endpointAt l (sd i) = e at *
  refine ⟨m, l, ?_, rfl, S⟩
  unfold Kp421.roundTripList
  show some (m, [(e.congestionWindow : Int), (e.threshold : Int), (e.timeout : Int), (e.duplicateAcks : Int), (e.retransmissions : Int), b2n e.roundTrip.isSome, smN e.roundTrip, vaN e.roundTrip]) = _
  cases e.roundTrip with
  | none => rfl
  | some q => rfl
theorem fm_cast_mem {α β : Type} {a : α → β} {b : β → List Int} {c : α → List Nat} : ∀ {l : List α}, (∀ x ∈ l, b (a x) = castL (c x)) → (l.map a).flatMap b = castL (l.flatMap c)
  | [], _ => rfl
  | x :: r, h => by
    rw [List.map_cons, List.flatMap_cons, List.flatMap_cons, fm_cast_mem fun y m => h y (List.mem_cons_of_mem _ m), h x List.mem_cons_self, ints_app]
theorem outst_ok {ini : List Int} {m : MLink} {l : Link} (S : SimL B ini m l) (i : Bool) : DeedOk B ini (listOutstanding m i) (Kp421.step (some l) (.listOutstanding (sd i))) := by
  obtain ⟨em, h, hp, _, hb, loc, srt, el, wl, b2⟩ := side_at S i
  show DeedOk B ini _ (some l, if Kp421.isSide (sd i) = true then Kp421.natResult (Kp421.endpointAt l (sd i)).outstanding.length ((Kp421.endpointAt l (sd i)).outstanding.flatMap fun o => [o.position, o.size, o.transmissions, if o.received then 1 else 0]) else Kp421.single (-2))
  rw [is_side, if_pos rfl]
  unfold listOutstanding
  simp only [h]
  generalize Kp421.endpointAt l (sd i) = e at *
  have ol := out_len loc
  have pl : (embE i e em).parts.length = e.outstanding.length := List.length_map ..
  rw [if_pos (by omega), pl]
  have fm : (embE i e em).parts.flatMap partRow = castL (e.outstanding.flatMap fun o => [o.position, o.size, o.transmissions, if o.received then 1 else 0]) := by
    refine fm_cast_mem fun p mp => ?_
    unfold partRow
    rw [fin_eq (loc.parts p mp).sf]
    have hf : p.finish = p.position + p.size := rfl
    have e1 : (p.finish : Int) - (prt p).position = (p.size : Int) := by show (p.finish : Int) - (p.position : Int) = _; omega
    rw [e1]
    show [(p.position : Int), (p.size : Int), (p.transmissions : Int), b2n p.received] = castL [p.position, p.size, p.transmissions, if p.received then 1 else 0]
    cases p.received <;> rfl
  rw [fm]
  exact ⟨m, l, rfl, rfl, S⟩
theorem ranges_ok {ini : List Int} {m : MLink} {l : Link} (S : SimL B ini m l) (i : Bool) : DeedOk B ini (showRanges m i) (Kp421.step (some l) (.earlyRanges (sd i))) := by
  obtain ⟨em, h, hp, _, hb, loc, srt, el, wl, b2⟩ := side_at S i
  show DeedOk B ini _ (some l, if Kp421.isSide (sd i) = true then Kp421.natResult (Kp421.rangesOf (Kp421.endpointAt l (sd i)).early).length ((Kp421.rangesOf (Kp421.endpointAt l (sd i)).early).flatMap fun r => [r.1, r.2]) else Kp421.single (-2))
  rw [is_side, if_pos rfl]
  unfold showRanges
  simp only [h]
  generalize Kp421.endpointAt l (sd i) = e at *
  have hl : (embE i e em).early.length = e.early.length := pm_len hp
  rw [if_pos (by omega), ranges_eq hp srt]
  have pl : (pairs (Kp421.rangesOf e.early)).length = (Kp421.rangesOf e.early).length := List.length_map ..
  have fm : ((pairs (Kp421.rangesOf e.early)).flatMap fun r => [r.1, r.2]) = castL ((Kp421.rangesOf e.early).flatMap fun r => [r.1, r.2]) := fm_cast (a := pair) (fun b => rfl) _
  rw [pl, fm]
  exact ⟨m, l, rfl, rfl, S⟩
theorem totals_ok {ini : List Int} {m : MLink} {l : Link} (S : SimL B ini m l) (i : Bool) : DeedOk B ini (totals m i) (Kp421.step (some l) (.totals (sd i))) := by
  obtain ⟨em, h, _⟩ := side_at S i
  show DeedOk B ini _ (some l, if Kp421.isSide (sd i) = true then Kp421.natResult (Kp421.endpointAt l (sd i)).written.length [(Kp421.endpointAt l (sd i)).acknowledged, (Kp421.endpointAt l (sd i)).nextPosition, (Kp421.endpointAt l (sd i)).expected, (Kp421.endpointAt l (sd i)).consumed.length] else Kp421.single (-2))
  rw [is_side, if_pos rfl]
  unfold totals
  simp only [h]
  exact ⟨m, l, rfl, rfl, S⟩
theorem stat_ok {ini : List Int} {m : MLink} {l : Link} (S : SimL B ini m l) : DeedOk B ini (statistics m) (Kp421.step (some l) .statistics) := by
  have hl := segs_len S
  unfold statistics
  rw [hl]
  refine ⟨m, l, ?_, rfl, S⟩
  obtain ⟨L, a, b, ea, eb, rfl, rfl, p1, p2, G⟩ := S
  rfl
/-! ### a new link -/
theorem fits_eq (m b t k i j : Nat) : fits [(m : Int), b, t, k, i, j] lims = Kp421.validSettings ⟨m, b, t, k⟩ i j := by
  have h : fits [(m : Int), b, t, k, i, j] lims = true ↔ Kp421.validSettings ⟨m, b, t, k⟩ i j = true := by
    unfold Kp421.validSettings Kp421.minTimeout Kp421.sequenceModulus
    simp only [fits, lims, Bool.and_eq_true, decide_eq_true_eq]
    constructor
    · intro h
      split at h
      · split at h
        · split at h
          · split at h
            · split at h
              · split at h
                · omega
                · cases h
              · cases h
            · cases h
          · cases h
        · cases h
      · cases h
    · intro h
      rw [if_pos (by omega), if_pos (by omega), if_pos (by omega), if_pos (by omega), if_pos (by omega), if_pos (by omega)]
  cases h1 : fits [(m : Int), b, t, k, i, j] lims with
  | true => exact (h.mp h1).symm
  | false =>
    cases h2 : Kp421.validSettings ⟨m, b, t, k⟩ i j with
    | true => rw [h.mpr h2] at h1; cases h1
    | false => rfl
theorem new_loc (c : Settings) (ph : Phase) (hph : ph = .closed ∨ ph = .listening) (x : Nat) (h1 : 1 ≤ c.segmentSize) (h2 : c.segmentSize ≤ 20) (hx : x < 65536) : Loc c 0 (Kp421.newEndpoint c ph x) ∧ Rcv c (Kp421.newEndpoint c ph x) := by
  refine ⟨⟨Nat.le_refl _, ?_, fun p m => (nomatch m), Nat.zero_le _, Nat.zero_le _, by show 1 ≤ 2 * c.segmentSize; omega, by show 2 * c.segmentSize ≤ 10000; omega, hx⟩, ⟨fun x m => (nomatch m), fun z => ?_, fun _ => ⟨rfl, rfl, rfl⟩⟩⟩
  · unfold Cur
    rcases hph with rfl | rfl
    · exact ⟨rfl, rfl, rfl, rfl, rfl, rfl, rfl⟩
    · exact ⟨rfl, rfl, rfl, rfl, rfl, rfl, rfl⟩
  · have z : ph = .synReceived ∨ ph = .established := z
    rcases hph with rfl | rfl <;> rcases z with z | z <;> cases z
theorem new_cross (c : Settings) (ph ph' : Phase) (x y : Nat) : Cross (Kp421.newEndpoint c ph x) (Kp421.newEndpoint c ph' y) :=
  ⟨fun z => absurd rfl z, List.Pairwise.nil, fun x m => (nomatch m), fun p h => (nomatch h), .inl (Nat.zero_le _)⟩
theorem create_ok (m b t k i j : Nat) : (Kp421.validSettings ⟨m, b, t, k⟩ i j = true ∧ ∃ m', madeLink [(m : Int), b, t, k, i, j] = some m' ∧ SimL B [(i : Int), j] m' (Kp421.create ⟨m, b, t, k⟩ i j)) ∨ (Kp421.validSettings ⟨m, b, t, k⟩ i j = false ∧ madeLink [(m : Int), b, t, k, i, j] = none) := by
  have hf := fits_eq m b t k i j
  cases hv : Kp421.validSettings ⟨m, b, t, k⟩ i j with
  | false =>
    refine .inr ⟨rfl, ?_⟩
    show (if fits [(m : Int), b, t, k, i, j] lims = true then some _ else none) = none
    rw [hf, hv]
    rfl
  | true =>
    refine .inl ⟨rfl, _, (by
      show (if fits [(m : Int), b, t, k, i, j] lims = true then some _ else none) = _
      rw [hf, hv, if_pos rfl]), ?_⟩
    have v := hv
    unfold Kp421.validSettings Kp421.minTimeout Kp421.sequenceModulus at v
    simp only [Bool.and_eq_true, decide_eq_true_eq] at v
    have s1 : 1 ≤ m := by omega
    have s2 : m ≤ 20 := by omega
    obtain ⟨l1, r1⟩ := new_loc ⟨m, b, t, k⟩ .closed (.inl rfl) i s1 s2 (by omega)
    obtain ⟨l2, r2⟩ := new_loc ⟨m, b, t, k⟩ .listening (.inr rfl) j s1 s2 (by omega)
    refine ⟨⟨⟨m, b, t, k⟩, 0, [], [], 0, 0, 0⟩, Kp421.newEndpoint ⟨m, b, t, k⟩ .closed i, Kp421.newEndpoint ⟨m, b, t, k⟩ .listening j, [], [], ?_, rfl, .refl _, .refl _, ?_⟩
    · rfl
    · exact ⟨s1, s2, by show 1 ≤ b; omega, by show b ≤ 200; omega, Nat.zero_le _, fun g mg => (nomatch mg), l1, l2, new_cross _ _ _ _ _, new_cross _ _ _ _ _, Nat.zero_le _, Nat.zero_le _, r1, r2, Nat.zero_le _, Nat.zero_le _⟩
end Ws
set_option Elab.async false
set_option linter.all false
set_option maxRecDepth 100000
set_option maxHeartbeats 2000000
set_option pp.maxSteps 400
namespace Ws
open Kp421 (Segment Outstanding Phase Settings Endpoint Link)
variable {B : Nat}
/-! ### the calls -/
def SimS (B : Nat) : Option MLink → Option Link → Prop
  | none, none => True
  | some m, some l => ∃ ini, SimL B ini m l
  | _, _ => False
theorem SimS.mono {C : Nat} {st : Option MLink} {sp : Option Link} (S : SimS B st sp) (h : B ≤ C) : SimS C st sp := by
  cases st with
  | none => cases sp with
    | none => trivial
    | some l => exact S
  | some m => cases sp with
    | none => exact S
    | some l =>
      obtain ⟨ini, S⟩ := S
      exact ⟨ini, S.mono h⟩
def row (y : Kp421.State × Kp421.Ans) : Kp421.State × List Int := (y.1, y.2.num :: y.2.nums)
def CallOk (B : Nat) (f : Option (Option MLink × List Int)) (x : Kp421.State × List Int) : Prop := ∃ st', f = some (st', x.2) ∧ SimS B st' x.1
/-- a call that is no create -/
theorem call_of {C : Nat} {st : Option MLink} {sp : Option Link} (S : SimS B st sp) (h : B ≤ C) {op : Int} {nums rw_ : List Int} {c : Kp421.Call} (h0 : op ≠ 0) (hn : Kp421.step none c = (none, Kp421.single (-11)))
    (hd : ∀ ini m l, SimL B ini m l → DeedOk C ini (deed m op nums rw_) (Kp421.step (some l) c)) : CallOk C (callM st op nums rw_) (row (Kp421.step sp c)) := by
  unfold callM
  rw [if_neg h0]
  cases st with
  | none => cases sp with
    | none =>
      rw [hn]
      exact ⟨none, rfl, trivial⟩
    | some l => exact S.elim
  | some m => cases sp with
    | none => exact S.elim
    | some l =>
      obtain ⟨ini, S⟩ := S
      obtain ⟨m', l', q1, q2, q3⟩ := hd ini m l S
      refine ⟨some m', ?_, ?_⟩
      · show (deed m op nums rw_).bind _ = _
        rw [q1]
        rfl
      · show SimS C (some m') (Kp421.step (some l) c).1
        rw [q2]
        exact ⟨ini, q3⟩
theorem DeedOk.mono {C : Nat} {ini : List Int} {f : Ans} {x : Kp421.State × Kp421.Ans} (h : DeedOk B ini f x) (k : B ≤ C) : DeedOk C ini f x := by
  obtain ⟨m, l, a, b, c⟩ := h
  exact ⟨m, l, a, b, c.mono k⟩
theorem side_or (s : Nat) : 1 < s ∨ ∃ i, s = sd i := by
  rcases Nat.lt_or_ge 1 s with h | h
  · exact .inl h
  · rcases (show s = 0 ∨ s = 1 by omega) with e | e
    · exact .inr ⟨false, e⟩
    · exact .inr ⟨true, e⟩
theorem no_side {s : Nat} (h : 1 < s) : Kp421.isSide s = false := decide_eq_false (by omega)
theorem bad_ok {C : Nat} {ini : List Int} {m : MLink} {l : Link} (S : SimL C ini m l) : DeedOk C ini (ans m [-2]) (some l, Kp421.single (-2)) := ⟨m, l, rfl, rfl, S⟩
theorem sq_bad {m : MLink} {op : Int} {s : Nat} (h : 1 < s) : sideQuestion m op (s : Int) = ans m [-2] := if_pos (by omega)
theorem sc_bad {m : MLink} {op : Int} {s : Nat} {r rw_ : List Int} (h : 1 < s) : sideChange m op ((s : Int) :: r) rw_ = ans m [-2] := if_pos (by show (s : Int) > 1; omega)
section
variable {ini : List Int} {m : MLink} {l : Link}
theorem d16 (S : SimL B ini m l) (s : Nat) : DeedOk B ini (deed m 16 [(s : Int)] []) (Kp421.step (some l) (.status s)) := by
  show DeedOk B ini (sideQuestion m 16 (s : Int)) _
  rcases side_or s with h | ⟨i, rfl⟩
  · rw [sq_bad h]
    show DeedOk B ini _ (some l, if Kp421.isSide s = true then _ else _)
    rw [no_side h]
    exact bad_ok S
  · have := status_ok S i
    cases i <;> exact this
theorem d17 (S : SimL B ini m l) (s : Nat) : DeedOk B ini (deed m 17 [(s : Int)] []) (Kp421.step (some l) (.congestion s)) := by
  show DeedOk B ini (sideQuestion m 17 (s : Int)) _
  rcases side_or s with h | ⟨i, rfl⟩
  · rw [sq_bad h]
    show DeedOk B ini _ (some l, if Kp421.isSide s = true then _ else _)
    rw [no_side h]
    exact bad_ok S
  · have := cong_ok S i
    cases i <;> exact this
theorem d18 (S : SimL B ini m l) (s : Nat) : DeedOk B ini (deed m 18 [(s : Int)] []) (Kp421.step (some l) (.listOutstanding s)) := by
  show DeedOk B ini (sideQuestion m 18 (s : Int)) _
  rcases side_or s with h | ⟨i, rfl⟩
  · rw [sq_bad h]
    show DeedOk B ini _ (some l, if Kp421.isSide s = true then _ else _)
    rw [no_side h]
    exact bad_ok S
  · have := outst_ok S i
    cases i <;> exact this
theorem d19 (S : SimL B ini m l) (s : Nat) : DeedOk B ini (deed m 19 [(s : Int)] []) (Kp421.step (some l) (.earlyRanges s)) := by
  show DeedOk B ini (sideQuestion m 19 (s : Int)) _
  rcases side_or s with h | ⟨i, rfl⟩
  · rw [sq_bad h]
    show DeedOk B ini _ (some l, if Kp421.isSide s = true then _ else _)
    rw [no_side h]
    exact bad_ok S
  · have := ranges_ok S i
    cases i <;> exact this
theorem d20 (S : SimL B ini m l) (s : Nat) : DeedOk B ini (deed m 20 [(s : Int)] []) (Kp421.step (some l) (.totals s)) := by
  show DeedOk B ini (sideQuestion m 20 (s : Int)) _
  rcases side_or s with h | ⟨i, rfl⟩
  · rw [sq_bad h]
    show DeedOk B ini _ (some l, if Kp421.isSide s = true then _ else _)
    rw [no_side h]
    exact bad_ok S
  · have := totals_ok S i
    cases i <;> exact this
theorem d2 (S : SimL B ini m l) (hB : B + 64 ≤ 3840) (s : Nat) (bs : List Nat) (hb : bs.length ≤ 64) : DeedOk (B + 64) ini (deed m 2 [(s : Int)] (castL bs)) (Kp421.step (some l) (.write s bs)) := by
  show DeedOk (B + 64) ini (sideChange m 2 [(s : Int)] (castL bs)) _
  rcases side_or s with h | ⟨i, rfl⟩
  · rw [sc_bad h]
    show DeedOk (B + 64) ini _ (if Kp421.isSide s = false then _ else _)
    rw [no_side h]
    exact bad_ok (S.mono (by omega))
  · have := write_ok S i bs hb hB
    cases i <;> exact this
theorem d3 (S : SimL B ini m l) (s k : Nat) : DeedOk B ini (deed m 3 [(s : Int), (k : Int)] []) (Kp421.step (some l) (.read s k)) := by
  show DeedOk B ini (sideChange m 3 [(s : Int), (k : Int)] []) _
  rcases side_or s with h | ⟨i, rfl⟩
  · rw [sc_bad h]
    show DeedOk B ini _ (if Kp421.isSide s = true then _ else _)
    rw [no_side h]
    exact bad_ok S
  · have := read_ok S i k
    cases i <;> exact this
theorem d4 (S : SimL B ini m l) (s : Nat) : DeedOk B ini (deed m 4 [(s : Int)] []) (Kp421.step (some l) (.close s)) := by
  show DeedOk B ini (sideChange m 4 [(s : Int)] []) _
  rcases side_or s with h | ⟨i, rfl⟩
  · rw [sc_bad h]
    show DeedOk B ini _ (if Kp421.isSide s = false then _ else _)
    rw [no_side h]
    exact bad_ok S
  · have := close_ok S i
    cases i <;> exact this
theorem d5 (S : SimL B ini m l) (s : Nat) : DeedOk B ini (deed m 5 [(s : Int)] []) (Kp421.step (some l) (.abort s)) := by
  show DeedOk B ini (sideChange m 5 [(s : Int)] []) _
  rcases side_or s with h | ⟨i, rfl⟩
  · rw [sc_bad h]
    show DeedOk B ini _ (if Kp421.isSide s = false then _ else _)
    rw [no_side h]
    exact bad_ok S
  · have := abort_ok S i
    cases i <;> exact this
end
end Ws
set_option Elab.async false
set_option linter.all false
set_option maxRecDepth 100000
set_option maxHeartbeats 4000000
set_option pp.maxSteps 400
namespace Ws
open Kp421 (Segment Outstanding Phase Settings Endpoint Link)
variable {B : Nat}
theorem nat_of {z : Int} (h : Kp421Neutral.natural z = true) : z = (z.toNat : Int) := by
  unfold Kp421Neutral.natural at h
  have := of_decide_eq_true (Bool.and_eq_true_iff.mp h).1
  omega
theorem nats_of {l : List Int} (h : l.all Kp421Neutral.natural = true) : l = castL (l.map Int.toNat) := by
  induction l with
  | nil => rfl
  | cons x r ih =>
    obtain ⟨h1, h2⟩ := Bool.and_eq_true_iff.mp (show (Kp421Neutral.natural x && r.all Kp421Neutral.natural) = true from h)
    show x :: r = (x.toNat : Int) :: castL (r.map Int.toNat)
    rw [← ih h2, ← nat_of h1]
/-- what the specification's step is of a call -/
theorem nstep {s : Kp421Neutral.S} {c : Kp421Neutral.Call} {x : Kp421.Call} (h : Kp421Neutral.callOf c = some x) : Kp421Neutral.step s c = row (Kp421.step s x) := by
  unfold Kp421Neutral.step
  rw [h]
  rfl
theorem one_len {l : List Int} (h : l.length = 1) : ∃ a, l = [a] := by
  match l, h with
  | [a], _ => exact ⟨a, rfl⟩
theorem two_len {l : List Int} (h : l.length = 2) : ∃ a b, l = [a, b] := by
  match l, h with
  | [a, b], _ => exact ⟨a, b, rfl⟩
theorem nil_len {l : List Int} (h : l.length = 0) : l = [] := List.length_eq_zero_iff.mp h
section
variable {st : Option MLink} {sp : Option Link}
theorem t0 (S : SimS B st sp) (n : List Int) (hn : n.length = 6) (ha : Kp421Neutral.asked1 (PyKp421.whole [0 :: n]) = true) : CallOk (B + 64) (callM st 0 n []) (Kp421Neutral.step sp (PyKp421.whole [0 :: n])) := by
  obtain ⟨a, b, c, d, e, f, rfl⟩ := six hn
  have ha : (Kp421Neutral.natural a && (Kp421Neutral.natural b && (Kp421Neutral.natural c && (Kp421Neutral.natural d && (Kp421Neutral.natural e && Kp421Neutral.natural f))))) = true := ha
  simp only [Bool.and_eq_true] at ha
  obtain ⟨h1, h2, h3, h4, h5, h6⟩ := ha
  have e1 := nat_of h1
  have e2 := nat_of h2
  have e3 := nat_of h3
  have e4 := nat_of h4
  have e5 := nat_of h5
  have e6 := nat_of h6
  show CallOk (B + 64) (callM st 0 [a, b, c, d, e, f] []) (Kp421Neutral.step sp [[0, a, b, c, d, e, f]])
  rw [nstep (x := .create a.toNat b.toNat c.toNat d.toNat e.toNat f.toNat) rfl]
  generalize a.toNat = a' at *
  generalize b.toNat = b' at *
  generalize c.toNat = c' at *
  generalize d.toNat = d' at *
  generalize e.toNat = e' at *
  generalize f.toNat = f' at *
  subst e1 e2 e3 e4 e5 e6
  unfold callM
  rw [if_pos rfl]
  show CallOk (B + 64) _ (row (if Kp421.validSettings ⟨a', b', c', d'⟩ e' f' = true then (some (Kp421.create ⟨a', b', c', d'⟩ e' f'), Kp421.single 0) else (sp, Kp421.single (-22))))
  rcases create_ok (B := B + 64) a' b' c' d' e' f' with ⟨v, m', q1, q2⟩ | ⟨v, q1⟩
  · rw [v, if_pos rfl, q1]
    exact ⟨some m', rfl, _, q2⟩
  · rw [v, if_neg Bool.false_ne_true, q1]
    exact ⟨st, rfl, S.mono (by omega)⟩
theorem t_nil {op : Int} {x : Kp421.Call} (S : SimS B st sp) (h0 : op ≠ 0) (hc : Kp421Neutral.callOf [[op]] = some x) (hn : Kp421.step none x = (none, Kp421.single (-11))) (hd : ∀ ini m l, SimL B ini m l → DeedOk B ini (deed m op [] []) (Kp421.step (some l) x)) : CallOk (B + 64) (callM st op [] []) (Kp421Neutral.step sp [[op]]) := by
  rw [nstep hc]
  exact call_of S (by omega) h0 hn fun ini m l S' => (hd ini m l S').mono (by omega)
theorem t_one {op : Int} {f : Nat → Kp421.Call} {a : Int} (S : SimS B st sp) (h0 : op ≠ 0) (ha : Kp421Neutral.natural a = true) (hc : Kp421Neutral.callOf [[op, a]] = some (f a.toNat)) (hn : ∀ s, Kp421.step none (f s) = (none, Kp421.single (-11))) (hd : ∀ ini m l (s : Nat), SimL B ini m l → DeedOk B ini (deed m op [(s : Int)] []) (Kp421.step (some l) (f s))) : CallOk (B + 64) (callM st op [a] []) (Kp421Neutral.step sp [[op, a]]) := by
  rw [nstep hc]
  have e := nat_of ha
  generalize a.toNat = s at *
  subst e
  exact call_of S (by omega) h0 (hn s) fun ini m l S' => (hd ini m l s S').mono (by omega)
end
/-- one call -/
theorem call_top {st : Option MLink} {sp : Option Link} (S : SimS B st sp) (hB : B + 64 ≤ 3840) (o : Nat) (ho : o ≤ 21) (n : List Int) (hn : n.length = cn (o : Int)) (r : List Int) (ha : Kp421Neutral.asked1 (PyKp421.whole (((o : Int) :: n) :: (if (o : Int) = 2 ∨ (o : Int) = 15 then [r] else []))) = true) :
    CallOk (B + 64) (callM st (o : Int) n (if (o : Int) = 2 ∨ (o : Int) = 15 then r else [])) (Kp421Neutral.step sp (PyKp421.whole (((o : Int) :: n) :: (if (o : Int) = 2 ∨ (o : Int) = 15 then [r] else [])))) := by
  match o, ho with
  | 0, _ => exact t0 S n hn ha
  | 1, _ =>
    rw [nil_len hn]
    exact t_nil S (by decide) (x := .connect) rfl rfl fun ini m l S' => connect_ok S'
  | 2, _ =>
    obtain ⟨a, rfl⟩ := one_len hn
    have ha : (Kp421Neutral.natural a && (r.all Kp421Neutral.natural && decide (r.length ≤ 64))) = true := ha
    simp only [Bool.and_eq_true] at ha
    obtain ⟨h1, h2, h3⟩ := ha
    show CallOk (B + 64) (callM st 2 [a] r) (Kp421Neutral.step sp [2 :: a :: r])
    rw [nstep (x := .write a.toNat (r.map Int.toNat)) rfl]
    have e := nat_of h1
    have e2 := nats_of h2
    have hl : (r.map Int.toNat).length ≤ 64 := by rw [List.length_map]; exact of_decide_eq_true h3
    generalize r.map Int.toNat = bs at *
    generalize a.toNat = s at *
    subst e e2
    exact call_of S (by omega) (by decide) rfl fun ini m l S' => d2 S' hB s bs hl
  | 3, _ =>
    obtain ⟨a, b, rfl⟩ := two_len hn
    have ha : (Kp421Neutral.natural a && Kp421Neutral.natural b) = true := ha
    obtain ⟨h1, h2⟩ := Bool.and_eq_true_iff.mp ha
    show CallOk (B + 64) (callM st 3 [a, b] []) (Kp421Neutral.step sp [[3, a, b]])
    rw [nstep (x := .read a.toNat b.toNat) rfl]
    have e := nat_of h1
    have e2 := nat_of h2
    generalize b.toNat = k at *
    generalize a.toNat = s at *
    subst e e2
    exact call_of S (by omega) (by decide) rfl fun ini m l S' => (d3 S' s k).mono (by omega)
  | 4, _ =>
    obtain ⟨a, rfl⟩ := one_len hn
    exact t_one S (by decide) (f := .close) ha rfl (fun _ => rfl) fun ini m l s S' => d4 S' s
  | 5, _ =>
    obtain ⟨a, rfl⟩ := one_len hn
    exact t_one S (by decide) (f := .abort) ha rfl (fun _ => rfl) fun ini m l s S' => d5 S' s
  | 6, _ =>
    rw [nil_len hn]
    exact t_nil S (by decide) (x := .listSegments) rfl rfl fun ini m l S' => list_ok S'
  | 7, _ =>
    obtain ⟨a, rfl⟩ := one_len hn
    exact t_one S (by decide) (f := .getSegment) ha rfl (fun _ => rfl) fun ini m l s S' => get_ok S' s
  | 8, _ =>
    obtain ⟨a, rfl⟩ := one_len hn
    exact t_one S (by decide) (f := .deliver) ha rfl (fun _ => rfl) fun ini m l s S' => del_ok S' s
  | 9, _ =>
    obtain ⟨a, rfl⟩ := one_len hn
    exact t_one S (by decide) (f := .drop) ha rfl (fun _ => rfl) fun ini m l s S' => drp_ok S' s
  | 10, _ =>
    obtain ⟨a, rfl⟩ := one_len hn
    exact t_one S (by decide) (f := .duplicate) ha rfl (fun _ => rfl) fun ini m l s S' => dup_ok S' s
  | 11, _ =>
    obtain ⟨a, rfl⟩ := one_len hn
    exact t_one S (by decide) (f := .postpone) ha rfl (fun _ => rfl) fun ini m l s S' => pst_ok S' s
  | 12, _ =>
    obtain ⟨a, rfl⟩ := one_len hn
    exact t_one S (by decide) (f := .advance) ha rfl (fun _ => rfl) fun ini m l s S' => advance_ok S' s
  | 13, _ =>
    rw [nil_len hn]
    exact t_nil S (by decide) (x := .nextTimer) rfl rfl fun ini m l S' => next_ok S'
  | 14, _ =>
    rw [nil_len hn]
    exact t_nil S (by decide) (x := .fireTimer) rfl rfl fun ini m l S' => fire_ok S'
  | 15, _ =>
    rw [nil_len hn] at ha ⊢
    have ha : (r.all Kp421Neutral.natural && decide (r.length ≤ 64)) = true := ha
    obtain ⟨h2, h3⟩ := Bool.and_eq_true_iff.mp ha
    show CallOk (B + 64) (callM st 15 [] r) (Kp421Neutral.step sp [15 :: r])
    rw [nstep (x := .run (r.map Int.toNat)) rfl]
    have e2 := nats_of h2
    generalize r.map Int.toNat = bs at *
    subst e2
    exact call_of S (by omega) (by decide) rfl fun ini m l S' => DeedOk.mono (run_ok S' bs) (by omega)
  | 16, _ =>
    obtain ⟨a, rfl⟩ := one_len hn
    exact t_one S (by decide) (f := .status) ha rfl (fun _ => rfl) fun ini m l s S' => d16 S' s
  | 17, _ =>
    obtain ⟨a, rfl⟩ := one_len hn
    exact t_one S (by decide) (f := .congestion) ha rfl (fun _ => rfl) fun ini m l s S' => d17 S' s
  | 18, _ =>
    obtain ⟨a, rfl⟩ := one_len hn
    exact t_one S (by decide) (f := .listOutstanding) ha rfl (fun _ => rfl) fun ini m l s S' => d18 S' s
  | 19, _ =>
    obtain ⟨a, rfl⟩ := one_len hn
    exact t_one S (by decide) (f := .earlyRanges) ha rfl (fun _ => rfl) fun ini m l s S' => d19 S' s
  | 20, _ =>
    obtain ⟨a, rfl⟩ := one_len hn
    exact t_one S (by decide) (f := .totals) ha rfl (fun _ => rfl) fun ini m l s S' => d20 S' s
  | 21, _ =>
    rw [nil_len hn]
    exact t_nil S (by decide) (x := .statistics) rfl rfl fun ini m l S' => stat_ok S'
end Ws
set_option Elab.async false
set_option linter.all false
set_option maxRecDepth 100000
set_option maxHeartbeats 4000000
set_option pp.maxSteps 400
namespace Ws
variable {B : Nat}
def rk (p : Int) : Nat := if p = 2 ∨ p = 15 then 1 else 0
theorem shape_none {p : Int} (h : p < 0 ∨ 21 < p) : PyKp421.shape p = none := by
  unfold PyKp421.shape
  repeat rw [if_neg (by omega)]
theorem shape_is {p : Int} {n k : Nat} (h : PyKp421.shape p = some (n, k)) : 0 ≤ p ∧ p ≤ 21 ∧ n = cn p ∧ k = rk p := by
  by_cases c : p < 0 ∨ 21 < p
  · rw [shape_none c] at h
    cases h
  · obtain ⟨o, rfl⟩ := Int.eq_ofNat_of_zero_le (show 0 ≤ p by omega)
    have d : ∀ o : Fin 22, PyKp421.shape (o.1 : Int) = some (cn (o.1 : Int), rk (o.1 : Int)) := by decide
    have := d ⟨o, by omega⟩
    have e : PyKp421.shape (o : Int) = some (cn (o : Int), rk (o : Int)) := this
    rw [e] at h
    have h2 := Option.some.inj h
    exact ⟨by omega, by omega, (Prod.mk.inj h2).1.symm, (Prod.mk.inj h2).2.symm⟩
theorem row_some {l x t : List Int} (h : PyFlat.row l = some (x, t)) : ∃ n r, l = n :: r ∧ 0 ≤ n ∧ x = r.take n.toNat ∧ t = r.drop n.toNat := by
  cases l with
  | nil => cases h
  | cons n r =>
    have h : (if 0 ≤ n ∧ n.toNat ≤ r.length then some (r.take n.toNat, r.drop n.toNat) else none) = some (x, t) := h
    split at h
    · rename_i c
      have h2 := Prod.mk.inj (Option.some.inj h)
      exact ⟨n, r, rfl, c.1, h2.1.symm, h2.2.symm⟩
    · cases h
/-- a call's parse, as the mirror makes it -/
theorem call_parse {p : Int} {r : List Int} {c : List (List Int)} {t : List Int} (h : PyFlat.call PyKp421.shape (p :: r) = some (c, t)) :
    0 ≤ p ∧ p ≤ 21 ∧ cn p ≤ r.length ∧ ∃ x, someM p (r.drop (cn p)) = some ((if p = 2 ∨ p = 15 then x else []), t) ∧ c = (p :: r.take (cn p)) :: (if p = 2 ∨ p = 15 then [x] else []) := by
  have h : (match PyKp421.shape p with
    | none => none
    | some (n, k) => if r.length < n then none else match PyFlat.rows k (r.drop n) with
      | none => none
      | some (xs, t) => some ((p :: r.take n) :: xs, t)) = some (c, t) := h
  cases hs : PyKp421.shape p with
  | none => rw [hs] at h; cases h
  | some nk =>
    obtain ⟨n, k⟩ := nk
    obtain ⟨h1, h2, h3, h4⟩ := shape_is hs
    rw [hs] at h
    have h : (if r.length < n then none else match PyFlat.rows k (r.drop n) with
      | none => none
      | some (xs, t) => some ((p :: r.take n) :: xs, t)) = some (c, t) := h
    split at h
    · cases h
    rename_i hl
    subst h3 h4
    refine ⟨h1, h2, by omega, ?_⟩
    unfold someM rk at *
    by_cases cp : p = 2 ∨ p = 15
    · rw [if_pos cp] at h ⊢
      cases hr : PyFlat.row (r.drop (cn p)) with
      | none =>
        have e : PyFlat.rows 1 (r.drop (cn p)) = none := by
          show (match PyFlat.row (r.drop (cn p)) with
            | none => none
            | some (x, s) => match PyFlat.rows 0 s with
              | none => none
              | some (xs, t) => some (x :: xs, t)) = none
          rw [hr]
        rw [e] at h
        cases h
      | some xt =>
        obtain ⟨x, t'⟩ := xt
        have e : PyFlat.rows 1 (r.drop (cn p)) = some ([x], t') := by
          show (match PyFlat.row (r.drop (cn p)) with
            | none => none
            | some (x, s) => match PyFlat.rows 0 s with
              | none => none
              | some (xs, t) => some (x :: xs, t)) = _
          rw [hr]
          rfl
        rw [e] at h
        have h5 := Prod.mk.inj (Option.some.inj h)
        obtain ⟨m, r2, q1, q2, q3, q4⟩ := row_some hr
        refine ⟨x, ?_, ?_⟩
        · rw [q1, if_pos cp]
          show (if 0 ≤ m then some (r2.take m.toNat, r2.drop m.toNat) else none) = _
          rw [if_pos q2, ← q3, ← q4, h5.2]
        · rw [if_pos cp]
          exact h5.1.symm
    · rw [if_neg cp] at h ⊢
      have h5 := Prod.mk.inj (Option.some.inj (show some ((p :: r.take (cn p)) :: ([] : List (List Int)), r.drop (cn p)) = some (c, t) from h))
      refine ⟨[], ?_, ?_⟩
      · rw [if_neg cp, h5.2]
      · rw [if_neg cp]
        exact h5.1.symm
theorem ans_sim : ∀ (f : Nat) {l : List Int} {cs : List (List (List Int))} {st : Option MLink} {sp : Option Kp421.Link} {B : Nat}, PyFlat.calls PyKp421.shape f l = some cs → (cs.map PyKp421.whole).all Kp421Neutral.asked1 = true → SimS B st sp → B + 64 * cs.length ≤ 3840 →
    ansM f st l = some (PyFlat.told (PyFlat.played Kp421Neutral.step sp (cs.map PyKp421.whole)))
  | f, [], cs, st, sp, B, h, _, _, _ => by
    have e : cs = [] := by
      cases f <;> exact (Option.some.inj h).symm
    rw [e]
    cases f <;> rfl
  | 0, p :: r, cs, st, sp, B, h, _, _, _ => by cases h
  | f + 1, p :: r, cs, st, sp, B, h, ha, S, hB => by
    have h : (match PyFlat.call PyKp421.shape (p :: r) with
      | none => none
      | some (c, t) => match PyFlat.calls PyKp421.shape f t with
        | none => none
        | some cs => some (c :: cs)) = some cs := h
    cases hc : PyFlat.call PyKp421.shape (p :: r) with
    | none => rw [hc] at h; cases h
    | some ct =>
      obtain ⟨c, t⟩ := ct
      rw [hc] at h
      have h : (match PyFlat.calls PyKp421.shape f t with
        | none => none
        | some cs => some (c :: cs)) = some cs := h
      cases ht : PyFlat.calls PyKp421.shape f t with
      | none => rw [ht] at h; cases h
      | some cs' =>
        rw [ht] at h
        have e := (Option.some.inj h).symm
        subst e
        obtain ⟨h1, h2, h3, x, h4, h5⟩ := call_parse hc
        obtain ⟨a1, a2⟩ := Bool.and_eq_true_iff.mp (show (Kp421Neutral.asked1 (PyKp421.whole c) && (cs'.map PyKp421.whole).all Kp421Neutral.asked1) = true from ha)
        rw [List.length_cons] at hB
        obtain ⟨o, rfl⟩ := Int.eq_ofNat_of_zero_le h1
        have key := call_top S (by omega) o (by omega) (r.take (cn (o : Int))) (by rw [List.length_take]; omega) x (by rw [← h5]; exact a1)
        rw [← h5] at key
        obtain ⟨st', k1, k2⟩ := key
        have ih := ans_sim f ht a2 k2 (by omega)
        unfold ansM
        rw [if_pos ⟨h1, h2, h3⟩, h4]
        show (callM st (o : Int) (r.take (cn (o : Int))) (if (o : Int) = 2 ∨ (o : Int) = 15 then x else [])).bind _ = _
        rw [k1]
        show (ansM f st' t).bind _ = _
        rw [ih]
        rfl
theorem law_holds (l : List Int) (h : PyKp421.answers_asked l = true) : ansM l.length none l = some (PyKp421.answers l) := by
  unfold PyKp421.answers_asked at h
  cases hc : PyFlat.calls PyKp421.shape l.length l with
  | none => rw [hc] at h; cases h
  | some raw =>
    rw [hc] at h
    have h : (!raw.isEmpty && PyFlat.atMost 60 raw && PyInside.calls PyKp421.bound raw && Kp421Neutral.asked (raw.map PyKp421.whole) && PyFlat.short 10000000 (PyKp421.answers l)) = true := h
    simp only [Bool.and_eq_true] at h
    obtain ⟨⟨⟨⟨_, h2⟩, _⟩, h4⟩, _⟩ := h
    have h60 : raw.length ≤ 60 := of_decide_eq_true h2
    unfold Kp421Neutral.asked at h4
    have ha := (Bool.and_eq_true_iff.mp (Bool.and_eq_true_iff.mp h4).2).2
    have := ans_sim l.length (B := 0) hc ha (show SimS 0 none none from trivial) (by omega)
    rw [this]
    unfold PyKp421.answers PyKp421.calls
    rw [hc]
    rfl
end Ws
theorem PySem.Challenge.cw_wholestream_s01_answers_holds : PySem.Challenge.rw_wholestream_s01_answers.Holds := by
  exact Ws.row_holds fun l h => Ws.law_holds l h
