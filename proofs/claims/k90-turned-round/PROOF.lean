import PyProof.Rows.All
import Wide.All
import OpenK.AllK
import Wide.FinOn
import HandS.HeadHook4
import HandS.Head2
import HandS.HeadEnd
import HandS.ForMost
import HandS.Defaults
import HandS.Codes
import HandS.IsInst
import HandS.Conv
import HandS.Deep
import HandS.Wide
import HandS.Style
import HandS.TupAny
import KE.GoesEnum
import HandS.Steps
import HandS.NoneIn
import HandS.OwnEq
import HandS.SetFor
import HandS.Strs
import HandS.DictTup
import KE.KDictCopyH
import KE.KDictDisplayH
import PySem.Challenge.RW_quietrows_k90_whole_time_turned_round
set_option Elab.async false
set_option linter.all false
set_option maxRecDepth 100000
/-! #### Qt -/
set_option maxHeartbeats 2000000
/-! The text by places, its facts by names. Printed by gen1.py. -/
namespace Qr
open PySem L2
def top (i : Nat) : Stmt := PySem.Challenge.pw_quietrows_k90_whole_time_turned_round.main.body.getD i (.Pass ⟨0, 0, 0, 0⟩)
abbrev s_is_number : Stmt := top 13
abbrev s_settled_tuple : Stmt := top 14
abbrev s_check_stream : Stmt := top 16
abbrev s_is_member : Stmt := top 22
abbrev s_speakers : Stmt := top 23
abbrev s_kept_numbers : Stmt := top 27
abbrev s_told_events : Stmt := top 28
abbrev s_told_times : Stmt := top 29
abbrev s_are_gaps : Stmt := top 31
abbrev s_sums_of : Stmt := top 33
abbrev s_check_number : Stmt := top 36
abbrev s_amount_of : Stmt := top 37
abbrev s_event_at : Stmt := top 38
abbrev s_marked : Stmt := top 40
abbrev s_added : Stmt := top 41
abbrev s_joined_behind : Stmt := top 42
abbrev s_joined_ahead : Stmt := top 43
abbrev s_leading : Stmt := top 44
abbrev s_cut_at_quiet : Stmt := top 46
abbrev s_trains_of : Stmt := top 47
abbrev s_last_trains : Stmt := top 48
abbrev s_first_trains : Stmt := top 49
abbrev s_member_trains : Stmt := top 53
abbrev s_levels_of : Stmt := top 54
abbrev s_train_told : Stmt := top 55
abbrev s_record_places : Stmt := top 61
abbrev s_records_in : Stmt := top 62
abbrev s_records_of : Stmt := top 63
abbrev s_normal_form : Stmt := top 64
abbrev s_member_of : Stmt := top 65
abbrev s_same_rows : Stmt := top 66
abbrev s_idle_members : Stmt := top 67
abbrev s_is_contained : Stmt := top 68
abbrev s_rounded_up : Stmt := top 71
abbrev s_greatest_quiet : Stmt := top 72
abbrev s_pair_fate : Stmt := top 73
abbrev s_parting_gap : Stmt := top 74
abbrev s_kinds_parted : Stmt := top 77
abbrev s_less_parted : Stmt := top 78
abbrev s_records_parted : Stmt := top 79
abbrev s_parting : Stmt := top 80
abbrev s_check_numbers : Stmt := top 84
abbrev s_stretches : Stmt := top 85
abbrev s_count_leading : Stmt := top 87
abbrev s_can_tell : Stmt := top 90
abbrev s_folded : Stmt := top 91
abbrev s_count_pasts : Stmt := top 93
abbrev s__law_cell_at : Stmt := top 95
abbrev s__law_state : Stmt := top 96
abbrev s__law_digit : Stmt := top 97
abbrev s__law_kinds : Stmt := top 98
abbrev s__law_members : Stmt := top 99
abbrev s__law_made : Stmt := top 100
abbrev s__law_stream : Stmt := top 101
abbrev s__law_some : Stmt := top 102
abbrev s__law_turned : Stmt := top 103
abbrev s__law_numbers_right : Stmt := top 104
abbrev s__law_pasts_right : Stmt := top 105
abbrev s__law_trains_right : Stmt := top 106
abbrev s__law_is_plain : Stmt := top 107
abbrev s__law_pairs_right : Stmt := top 108
abbrev s_law : Stmt := top 109
abbrev s_Member_D_initD_ : Stmt := inClass (top 17) 0
abbrev s_Last_class_name : Stmt := inClass (top 18) 0
abbrev s_Last_kept : Stmt := inClass (top 18) 1
abbrev s_Last_waits : Stmt := inClass (top 18) 2
abbrev s_First_class_name : Stmt := inClass (top 19) 0
abbrev s_First_kept : Stmt := inClass (top 19) 1
abbrev s_Member_waits : Stmt := inClass (top 17) 2
abbrev s_Limit_kept : Stmt := inClass (top 20) 1
abbrev s_Delay_D_initD_ : Stmt := inClass (top 21) 0
abbrev s_Delay_kept : Stmt := inClass (top 21) 3
abbrev s_Delay_waits : Stmt := inClass (top 21) 4
abbrev s_Row_D_initD_ : Stmt := inClass (top 25) 0
abbrev s_Row_delays : Stmt := inClass (top 25) 3
abbrev s_Told_D_initD_ : Stmt := inClass (top 26) 0
abbrev s_Train_D_initD_ : Stmt := inClass (top 32) 0
abbrev s_Ruler_D_initD_ : Stmt := inClass (top 35) 0
abbrev s_Ruler_event_count : Stmt := inClass (top 35) 1
abbrev s_Ruler_time_of : Stmt := inClass (top 35) 2
abbrev s_Cut_D_initD_ : Stmt := inClass (top 45) 0
abbrev s_Normal_D_initD_ : Stmt := inClass (top 60) 0
abbrev s_Normal_class_name : Stmt := inClass (top 60) 1
abbrev s_Normal_facts : Stmt := inClass (top 60) 2
abbrev s_Thing_D_eqD_ : Stmt := inClass (top 12) 2
abbrev s_Leads_D_initD_ : Stmt := inClass (top 86) 0
abbrev s_Leads_left : Stmt := inClass (top 86) 1
abbrev s_Leads_is_open : Stmt := inClass (top 86) 2
abbrev s_Leads_ways_to_goal : Stmt := inClass (top 86) 3
abbrev s_Ways_D_initD_ : Stmt := inClass (top 92) 0
abbrev s_Ways_chains : Stmt := inClass (top 92) 1
abbrev s_Ways_add : Stmt := inClass (top 92) 2
def fn : List He.DefD := [
  ⟨("is_number", none), "is_number", "is_number", defArgs s_is_number, defBody s_is_number, defScope s_is_number, [], []⟩,
  ⟨("settled_tuple", none), "settled_tuple", "settled_tuple", defArgs s_settled_tuple, defBody s_settled_tuple, defScope s_settled_tuple, [], []⟩,
  ⟨("check_stream", none), "check_stream", "check_stream", defArgs s_check_stream, defBody s_check_stream, defScope s_check_stream, [], []⟩,
  ⟨("is_member", none), "is_member", "is_member", defArgs s_is_member, defBody s_is_member, defScope s_is_member, [], []⟩,
  ⟨("speakers", none), "speakers", "speakers", defArgs s_speakers, defBody s_speakers, defScope s_speakers, [], []⟩,
  ⟨("kept_numbers", none), "kept_numbers", "kept_numbers", defArgs s_kept_numbers, defBody s_kept_numbers, defScope s_kept_numbers, [], []⟩,
  ⟨("told_events", none), "told_events", "told_events", defArgs s_told_events, defBody s_told_events, defScope s_told_events, [], []⟩,
  ⟨("told_times", none), "told_times", "told_times", defArgs s_told_times, defBody s_told_times, defScope s_told_times, [], []⟩,
  ⟨("are_gaps", none), "are_gaps", "are_gaps", defArgs s_are_gaps, defBody s_are_gaps, defScope s_are_gaps, [], []⟩,
  ⟨("sums_of", none), "sums_of", "sums_of", defArgs s_sums_of, defBody s_sums_of, defScope s_sums_of, [], []⟩,
  ⟨("check_number", none), "check_number", "check_number", defArgs s_check_number, defBody s_check_number, defScope s_check_number, [], []⟩,
  ⟨("amount_of", none), "amount_of", "amount_of", defArgs s_amount_of, defBody s_amount_of, defScope s_amount_of, [], []⟩,
  ⟨("event_at", none), "event_at", "event_at", defArgs s_event_at, defBody s_event_at, defScope s_event_at, [], []⟩,
  ⟨("marked", none), "marked", "marked", defArgs s_marked, defBody s_marked, defScope s_marked, [], []⟩,
  ⟨("added", none), "added", "added", defArgs s_added, defBody s_added, defScope s_added, [], []⟩,
  ⟨("joined_behind", none), "joined_behind", "joined_behind", defArgs s_joined_behind, defBody s_joined_behind, defScope s_joined_behind, [], []⟩,
  ⟨("joined_ahead", none), "joined_ahead", "joined_ahead", defArgs s_joined_ahead, defBody s_joined_ahead, defScope s_joined_ahead, [], []⟩,
  ⟨("leading", none), "leading", "leading", defArgs s_leading, defBody s_leading, defScope s_leading, [], []⟩,
  ⟨("cut_at_quiet", none), "cut_at_quiet", "cut_at_quiet", defArgs s_cut_at_quiet, defBody s_cut_at_quiet, defScope s_cut_at_quiet, [], []⟩,
  ⟨("trains_of", none), "trains_of", "trains_of", defArgs s_trains_of, defBody s_trains_of, defScope s_trains_of, [], []⟩,
  ⟨("last_trains", none), "last_trains", "last_trains", defArgs s_last_trains, defBody s_last_trains, defScope s_last_trains, [], []⟩,
  ⟨("first_trains", none), "first_trains", "first_trains", defArgs s_first_trains, defBody s_first_trains, defScope s_first_trains, [], []⟩,
  ⟨("member_trains", none), "member_trains", "member_trains", defArgs s_member_trains, defBody s_member_trains, defScope s_member_trains, [], []⟩,
  ⟨("levels_of", none), "levels_of", "levels_of", defArgs s_levels_of, defBody s_levels_of, defScope s_levels_of, [], []⟩,
  ⟨("train_told", none), "train_told", "train_told", defArgs s_train_told, defBody s_train_told, defScope s_train_told, [], []⟩,
  ⟨("record_places", none), "record_places", "record_places", defArgs s_record_places, defBody s_record_places, defScope s_record_places, [], []⟩,
  ⟨("records_in", none), "records_in", "records_in", defArgs s_records_in, defBody s_records_in, defScope s_records_in, [], []⟩,
  ⟨("records_of", none), "records_of", "records_of", defArgs s_records_of, defBody s_records_of, defScope s_records_of, [], []⟩,
  ⟨("normal_form", none), "normal_form", "normal_form", defArgs s_normal_form, defBody s_normal_form, defScope s_normal_form, [], []⟩,
  ⟨("member_of", none), "member_of", "member_of", defArgs s_member_of, defBody s_member_of, defScope s_member_of, [], []⟩,
  ⟨("same_rows", none), "same_rows", "same_rows", defArgs s_same_rows, defBody s_same_rows, defScope s_same_rows, [], []⟩,
  ⟨("idle_members", none), "idle_members", "idle_members", defArgs s_idle_members, defBody s_idle_members, defScope s_idle_members, [], []⟩,
  ⟨("is_contained", none), "is_contained", "is_contained", defArgs s_is_contained, defBody s_is_contained, defScope s_is_contained, [], []⟩,
  ⟨("rounded_up", none), "rounded_up", "rounded_up", defArgs s_rounded_up, defBody s_rounded_up, defScope s_rounded_up, [], []⟩,
  ⟨("greatest_quiet", none), "greatest_quiet", "greatest_quiet", defArgs s_greatest_quiet, defBody s_greatest_quiet, defScope s_greatest_quiet, [], []⟩,
  ⟨("pair_fate", none), "pair_fate", "pair_fate", defArgs s_pair_fate, defBody s_pair_fate, defScope s_pair_fate, [], []⟩,
  ⟨("parting_gap", none), "parting_gap", "parting_gap", defArgs s_parting_gap, defBody s_parting_gap, defScope s_parting_gap, [], []⟩,
  ⟨("kinds_parted", none), "kinds_parted", "kinds_parted", defArgs s_kinds_parted, defBody s_kinds_parted, defScope s_kinds_parted, [], []⟩,
  ⟨("less_parted", none), "less_parted", "less_parted", defArgs s_less_parted, defBody s_less_parted, defScope s_less_parted, [], []⟩,
  ⟨("records_parted", none), "records_parted", "records_parted", defArgs s_records_parted, defBody s_records_parted, defScope s_records_parted, [], []⟩,
  ⟨("parting", none), "parting", "parting", defArgs s_parting, defBody s_parting, defScope s_parting, [], []⟩,
  ⟨("check_numbers", none), "check_numbers", "check_numbers", defArgs s_check_numbers, defBody s_check_numbers, defScope s_check_numbers, [], []⟩,
  ⟨("stretches", none), "stretches", "stretches", defArgs s_stretches, defBody s_stretches, defScope s_stretches, [], []⟩,
  ⟨("count_leading", none), "count_leading", "count_leading", defArgs s_count_leading, defBody s_count_leading, defScope s_count_leading, [], []⟩,
  ⟨("can_tell", none), "can_tell", "can_tell", defArgs s_can_tell, defBody s_can_tell, defScope s_can_tell, [], []⟩,
  ⟨("folded", none), "folded", "folded", defArgs s_folded, defBody s_folded, defScope s_folded, [], []⟩,
  ⟨("count_pasts", none), "count_pasts", "count_pasts", defArgs s_count_pasts, defBody s_count_pasts, defScope s_count_pasts, [], []⟩,
  ⟨("_law_cell_at", none), "_law_cell_at", "_law_cell_at", defArgs s__law_cell_at, defBody s__law_cell_at, defScope s__law_cell_at, [], []⟩,
  ⟨("_law_state", none), "_law_state", "_law_state", defArgs s__law_state, defBody s__law_state, defScope s__law_state, [], []⟩,
  ⟨("_law_digit", none), "_law_digit", "_law_digit", defArgs s__law_digit, defBody s__law_digit, defScope s__law_digit, [], []⟩,
  ⟨("_law_kinds", none), "_law_kinds", "_law_kinds", defArgs s__law_kinds, defBody s__law_kinds, defScope s__law_kinds, [], []⟩,
  ⟨("_law_members", none), "_law_members", "_law_members", defArgs s__law_members, defBody s__law_members, defScope s__law_members, [], []⟩,
  ⟨("_law_made", none), "_law_made", "_law_made", defArgs s__law_made, defBody s__law_made, defScope s__law_made, [], []⟩,
  ⟨("_law_stream", none), "_law_stream", "_law_stream", defArgs s__law_stream, defBody s__law_stream, defScope s__law_stream, [], []⟩,
  ⟨("_law_some", none), "_law_some", "_law_some", defArgs s__law_some, defBody s__law_some, defScope s__law_some, [], []⟩,
  ⟨("_law_turned", none), "_law_turned", "_law_turned", defArgs s__law_turned, defBody s__law_turned, defScope s__law_turned, [], []⟩,
  ⟨("_law_numbers_right", none), "_law_numbers_right", "_law_numbers_right", defArgs s__law_numbers_right, defBody s__law_numbers_right, defScope s__law_numbers_right, [], []⟩,
  ⟨("_law_pasts_right", none), "_law_pasts_right", "_law_pasts_right", defArgs s__law_pasts_right, defBody s__law_pasts_right, defScope s__law_pasts_right, [], []⟩,
  ⟨("_law_trains_right", none), "_law_trains_right", "_law_trains_right", defArgs s__law_trains_right, defBody s__law_trains_right, defScope s__law_trains_right, [], []⟩,
  ⟨("_law_is_plain", none), "_law_is_plain", "_law_is_plain", defArgs s__law_is_plain, defBody s__law_is_plain, defScope s__law_is_plain, [], []⟩,
  ⟨("_law_pairs_right", none), "_law_pairs_right", "_law_pairs_right", defArgs s__law_pairs_right, defBody s__law_pairs_right, defScope s__law_pairs_right, [], []⟩,
  ⟨("law", none), "law", "law", defArgs s_law, defBody s_law, defScope s_law, [], []⟩,
  ⟨("Last", some "__init__"), "__init__", "Member.__init__", defArgs s_Member_D_initD_, defBody s_Member_D_initD_, defScope s_Member_D_initD_, [], []⟩,
  ⟨("Last", some "class_name"), "class_name", "Last.class_name", defArgs s_Last_class_name, defBody s_Last_class_name, defScope s_Last_class_name, [], []⟩,
  ⟨("Last", some "kept"), "kept", "Last.kept", defArgs s_Last_kept, defBody s_Last_kept, defScope s_Last_kept, [], []⟩,
  ⟨("Last", some "waits"), "waits", "Last.waits", defArgs s_Last_waits, defBody s_Last_waits, defScope s_Last_waits, [], []⟩,
  ⟨("First", some "__init__"), "__init__", "Member.__init__", defArgs s_Member_D_initD_, defBody s_Member_D_initD_, defScope s_Member_D_initD_, [], []⟩,
  ⟨("First", some "class_name"), "class_name", "First.class_name", defArgs s_First_class_name, defBody s_First_class_name, defScope s_First_class_name, [], []⟩,
  ⟨("First", some "kept"), "kept", "First.kept", defArgs s_First_kept, defBody s_First_kept, defScope s_First_kept, [], []⟩,
  ⟨("First", some "waits"), "waits", "Member.waits", defArgs s_Member_waits, defBody s_Member_waits, defScope s_Member_waits, [], []⟩,
  ⟨("Limit", some "__init__"), "__init__", "Member.__init__", defArgs s_Member_D_initD_, defBody s_Member_D_initD_, defScope s_Member_D_initD_, [], []⟩,
  ⟨("Limit", some "kept"), "kept", "Limit.kept", defArgs s_Limit_kept, defBody s_Limit_kept, defScope s_Limit_kept, [], []⟩,
  ⟨("Delay", some "__init__"), "__init__", "Delay.__init__", defArgs s_Delay_D_initD_, defBody s_Delay_D_initD_, defScope s_Delay_D_initD_, [], []⟩,
  ⟨("Delay", some "kept"), "kept", "Delay.kept", defArgs s_Delay_kept, defBody s_Delay_kept, defScope s_Delay_kept, [], []⟩,
  ⟨("Delay", some "waits"), "waits", "Delay.waits", defArgs s_Delay_waits, defBody s_Delay_waits, defScope s_Delay_waits, [], []⟩,
  ⟨("Row", some "__init__"), "__init__", "Row.__init__", defArgs s_Row_D_initD_, defBody s_Row_D_initD_, defScope s_Row_D_initD_, [], []⟩,
  ⟨("Row", some "delays"), "delays", "Row.delays", defArgs s_Row_delays, defBody s_Row_delays, defScope s_Row_delays, [], []⟩,
  ⟨("Told", some "__init__"), "__init__", "Told.__init__", defArgs s_Told_D_initD_, defBody s_Told_D_initD_, defScope s_Told_D_initD_, [], []⟩,
  ⟨("Train", some "__init__"), "__init__", "Train.__init__", defArgs s_Train_D_initD_, defBody s_Train_D_initD_, defScope s_Train_D_initD_, [], []⟩,
  ⟨("Ruler", some "__init__"), "__init__", "Ruler.__init__", defArgs s_Ruler_D_initD_, defBody s_Ruler_D_initD_, defScope s_Ruler_D_initD_, [], []⟩,
  ⟨("Ruler", some "event_count"), "event_count", "Ruler.event_count", defArgs s_Ruler_event_count, defBody s_Ruler_event_count, defScope s_Ruler_event_count, [], []⟩,
  ⟨("Ruler", some "time_of"), "time_of", "Ruler.time_of", defArgs s_Ruler_time_of, defBody s_Ruler_time_of, defScope s_Ruler_time_of, [], []⟩,
  ⟨("Cut", some "__init__"), "__init__", "Cut.__init__", defArgs s_Cut_D_initD_, defBody s_Cut_D_initD_, defScope s_Cut_D_initD_, [], []⟩,
  ⟨("Normal", some "__init__"), "__init__", "Normal.__init__", defArgs s_Normal_D_initD_, defBody s_Normal_D_initD_, defScope s_Normal_D_initD_, [], []⟩,
  ⟨("Normal", some "class_name"), "class_name", "Normal.class_name", defArgs s_Normal_class_name, defBody s_Normal_class_name, defScope s_Normal_class_name, [], []⟩,
  ⟨("Normal", some "facts"), "facts", "Normal.facts", defArgs s_Normal_facts, defBody s_Normal_facts, defScope s_Normal_facts, [], []⟩,
  ⟨("Normal", some "__eq__"), "__eq__", "Thing.__eq__", defArgs s_Thing_D_eqD_, defBody s_Thing_D_eqD_, defScope s_Thing_D_eqD_, [], []⟩,
  ⟨("Leads", some "__init__"), "__init__", "Leads.__init__", defArgs s_Leads_D_initD_, defBody s_Leads_D_initD_, defScope s_Leads_D_initD_, [], []⟩,
  ⟨("Leads", some "left"), "left", "Leads.left", defArgs s_Leads_left, defBody s_Leads_left, defScope s_Leads_left, [], []⟩,
  ⟨("Leads", some "is_open"), "is_open", "Leads.is_open", defArgs s_Leads_is_open, defBody s_Leads_is_open, defScope s_Leads_is_open, [], []⟩,
  ⟨("Leads", some "ways_to_goal"), "ways_to_goal", "Leads.ways_to_goal", defArgs s_Leads_ways_to_goal, defBody s_Leads_ways_to_goal, defScope s_Leads_ways_to_goal, [], []⟩,
  ⟨("Ways", some "__init__"), "__init__", "Ways.__init__", defArgs s_Ways_D_initD_, defBody s_Ways_D_initD_, defScope s_Ways_D_initD_, [], []⟩,
  ⟨("Ways", some "chains"), "chains", "Ways.chains", defArgs s_Ways_chains, defBody s_Ways_chains, defScope s_Ways_chains, [], []⟩,
  ⟨("Ways", some "add"), "add", "Ways.add", defArgs s_Ways_add, defBody s_Ways_add, defScope s_Ways_add, [], []⟩]
def fa : List He.Fa := [
  .glo "is_number", .glo "settled_tuple", .glo "check_stream", .glo "is_member", .glo "speakers", .glo "kept_numbers", .glo "told_events", .glo "told_times", .glo "are_gaps", .glo "sums_of", .glo "check_number", .glo "amount_of", .glo "event_at", .glo "marked", .glo "added", .glo "joined_behind", .glo "joined_ahead", .glo "leading", .glo "cut_at_quiet", .glo "trains_of", .glo "last_trains", .glo "first_trains", .glo "member_trains", .glo "levels_of", .glo "train_told", .glo "record_places", .glo "records_in", .glo "records_of", .glo "normal_form", .glo "member_of", .glo "same_rows", .glo "idle_members", .glo "is_contained", .glo "rounded_up", .glo "greatest_quiet", .glo "pair_fate", .glo "parting_gap", .glo "kinds_parted", .glo "less_parted", .glo "records_parted", .glo "parting", .glo "check_numbers", .glo "stretches", .glo "count_leading", .glo "can_tell", .glo "folded", .glo "count_pasts", .glo "_law_cell_at", .glo "_law_state", .glo "_law_digit", .glo "_law_kinds", .glo "_law_members", .glo "_law_made", .glo "_law_stream", .glo "_law_some", .glo "_law_turned", .glo "_law_numbers_right", .glo "_law_pasts_right", .glo "_law_trains_right", .glo "_law_is_plain", .glo "_law_pairs_right", .glo "law", .glo "Last", .cls "Last", .mkr "Last", .noat "Last" "q", .meth "Last" "class_name", .meth "Last" "kept", .meth "Last" "waits", .glo "First", .cls "First", .mkr "First", .noat "First" "q", .meth "First" "class_name", .meth "First" "kept", .meth "First" "waits", .glo "Limit", .cls "Limit", .mkr "Limit", .noat "Limit" "q", .meth "Limit" "kept", .glo "Delay", .cls "Delay", .mkr "Delay", .noat "Delay" "d", .meth "Delay" "kept", .meth "Delay" "waits", .glo "Row", .cls "Row", .mkr "Row", .noat "Row" "members", .meth "Row" "delays", .glo "Told", .cls "Told", .mkr "Told", .noat "Told" "number", .noat "Told" "time", .noat "Told" "first", .noat "Told" "last", .glo "Train", .cls "Train", .mkr "Train", .noat "Train" "first", .noat "Train" "head", .noat "Train" "block", .noat "Train" "rounds", .noat "Train" "end", .glo "Ruler", .cls "Ruler", .mkr "Ruler", .noat "Ruler" "first", .noat "Ruler" "head", .noat "Ruler" "block", .noat "Ruler" "end", .noat "Ruler" "size", .noat "Ruler" "before", .noat "Ruler" "behind", .noat "Ruler" "long", .meth "Ruler" "event_count", .meth "Ruler" "time_of", .glo "Cut", .cls "Cut", .mkr "Cut", .noat "Cut" "ahead", .noat "Cut" "row", .noat "Cut" "rounds", .noat "Cut" "rest", .glo "Normal", .cls "Normal", .mkr "Normal", .noat "Normal" "records", .noat "Normal" "delay", .meth "Normal" "class_name", .meth "Normal" "facts", .meth "Normal" "__eq__", .glo "Leads", .cls "Leads", .mkr "Leads", .noat "Leads" "stream", .noat "Leads" "goal", .noat "Leads" "stretches", .noat "Leads" "fewest", .meth "Leads" "left", .meth "Leads" "is_open", .meth "Leads" "ways_to_goal", .glo "Ways", .cls "Ways", .mkr "Ways", .noat "Ways" "size", .noat "Ways" "steps", .noat "Ways" "heads", .noat "Ways" "tails", .meth "Ways" "chains", .meth "Ways" "add", .glo "Thing", .free "len", .free "range", .free "list", .free "tuple", .free "isinstance", .free "enumerate", .free "sum", .free "max", .free "min", .free "all", .free "sorted", .free "set", .free "int", .free "bool", .free "abs", .free "divmod", .free "dict", .int "FAR" 8, .int "MOST_QUIET" 300, .int "MOST_TIMES" 300, .str "LAST" "last", .str "FIRST" "first", .str "LIMIT" "limit", .glo "KINDS"]
/-- what isinstance asks of an own class -/
def insB (K : PySem.W.Frag) (x : Str) : Bool := decide (PySem.W.findIn K (.ref (He.ga K x)) "__class__" = some (some (.builtin "object.__class__"))) && decide (PySem.W.mroIn K (He.ga K x) (.type "object") = some true)
def insG (K : PySem.W.Frag) : Bool := decide (PySem.W.specialIn K (.builtin "object.__class__") "__get__" = some (some (.builtin "getset_descriptor.__get__"))) && decide (PySem.W.takesIn K (.builtin "object.__class__") = some true)
def kitF (K : PySem.W.Frag) (x y : Str) (b : Bool) : Bool := decide (PySem.W.kitOne K (.ref (He.ga K x)) (.ref (He.ga K y)) = some b)
def insN : List Str := ["Last", "First", "Limit", "Delay", "Normal"]
def kits : List (Str × Str × Bool) := [("Last", "Last", true), ("First", "First", true), ("Delay", "Delay", true), ("Normal", "Thing", true), ("Limit", "Limit", true), ("First", "Last", false), ("Delay", "Last", false), ("Delay", "First", false), ("Last", "First", false), ("Last", "Delay", false), ("First", "Delay", false), ("Delay", "Limit", false), ("Last", "Limit", false), ("First", "Limit", false)]
def exB (K : PySem.W.Frag) : Bool := insG K && (insN.all fun x => insB K x) && (kits.all fun p => kitF K p.1 p.2.1 p.2.2) && He.tupB K "KINDS" [.str "first", .str "last", .str "limit"]
/-! ### the written part: the module's names, then what the top has laid, by ascending addresses -/
def wallAt (g : Addr → Option Obj) : Addr := match g mainGlobals with
  | some ⟨_, _, .dict es _, _⟩ => (match es.toList.find? (·.key.isStr "_wall") with
      | some ⟨_, _, .ref a⟩ => a
      | _ => 0)
  | _ => 0
def asN (g : Addr → Option Obj) (n : Nat) : List Addr := mainGlobals :: (List.range n).map (wallAt g - 8 + ·)
structure SaysN (K : PySem.W.Frag) : Prop where
  fac : (fa.all fun f => f.ok K) = true
  def_ : (fn.all fun d => d.ok K) = true
  more : exB K = true
  val : (fn.map fun d => He.fnW K d.at_) = fn.map He.DefD.val
abbrev AlN : Type := Bool × List He.FnW
def obsN (K : PySem.W.Frag) : AlN := ((fa.all fun f => f.ok K) && ((fn.all fun d => d.ok K) && exB K), fn.map fun d => He.fnW K d.at_)
def nN : Nat := 1500
abbrev hk : PySem.W.Hook where
  α := AlN
  obs := fun s => obsN (He.frG s.heap.get? (asN s.heap.get? nN))
  val := fun _ => (true, fn.map He.DefD.val)
  says := fun _ h => ∃ K : PySem.W.Frag, K.In h ∧ SaysN K
  of := fun _ _ e => ⟨_, He.frG_in, by
    have e1 := congrArg (fun z : AlN => z.1) e
    obtain ⟨a, b⟩ := He.ba e1
    obtain ⟨b, c⟩ := He.ba b
    exact ⟨a, b, c, congrArg (fun z : AlN => z.2) e⟩⟩
  keeps := fun _ _ _ ⟨K, hK, c⟩ k => ⟨K, PySem.W.Frag.In.keeps hK k, c⟩
def ob (s : PySem.W.SharedT) : AlN := obsN (He.frG (HandSHeadRun.getT s) (asN (HandSHeadRun.getT s) nN))
theorem ob_eq (s : PySem.W.SharedT) : ob s = hk.obs s.abs := by
  have e : HandSHeadRun.getT s = s.abs.heap.get? := funext (HandSHeadRun.getT_eq s)
  unfold ob
  rw [e]
/-! ### the facts by names -/
structure Tx (K : PySem.W.Frag) (mg : Str → Option Value) : Prop where
  says : SaysN K
  at_ : ∃ h : Heap, K.In h ∧ h.Ns mainGlobals mg
namespace Tx
variable {K : PySem.W.Frag} {mg : Str → Option Value}
theorem fact (T : Tx K mg) (i : Nat) {f : He.Fa} (h : fa[i]? = some f) : f.ok K = true := List.all_eq_true.mp T.says.fac f (List.mem_of_getElem? h)
theorem fnD (T : Tx K mg) (i : Nat) {d : He.DefD} (h : fn[i]? = some d) : ∃ fd, FunD K d.name d.qual d.params d.body d.scope (d.dvs K) (d.kws K) (He.fAd K d.at_) fd := by
  have c2 : d.ok K = true := List.all_eq_true.mp T.says.def_ d (List.mem_of_getElem? h)
  have e := T.says.val
  have e1 : (fn.map fun d => He.fnW K d.at_)[i]? = (fn.map He.DefD.val)[i]? := by rw [e]
  rw [List.getElem?_map, List.getElem?_map, h] at e1
  exact He.DefD.funD (Option.some.inj e1) c2
theorem glo (T : Tx K mg) (i : Nat) {x : Str} (h : fa[i]? = some (.glo x)) : mg x = some (.ref (He.ga K x)) := by
  obtain ⟨hp, X, G⟩ := T.at_
  exact He.glo_ok X G (T.fact i h)
theorem free (T : Tx K mg) (i : Nat) {x : Str} (h : fa[i]? = some (.free x)) : mg x = none := by
  obtain ⟨hp, X, G⟩ := T.at_
  exact He.free_ok X G (T.fact i h)
theorem int (T : Tx K mg) (i : Nat) {x : Str} {n : Int} (h : fa[i]? = some (.int x n)) : ∃ u, mg x = some u ∧ RelV (.int n) u := by
  obtain ⟨hp, X, G⟩ := T.at_
  obtain ⟨t, e⟩ := He.int_ok X G (T.fact i h)
  exact ⟨_, e, t, rfl⟩
theorem str (T : Tx K mg) (i : Nat) {x z : Str} (h : fa[i]? = some (.str x z)) : ∃ u, mg x = some u ∧ RelV (.str z) u := by
  obtain ⟨hp, X, G⟩ := T.at_
  obtain ⟨t, e⟩ := He.str_ok X G (T.fact i h)
  exact ⟨_, e, t, rfl⟩
theorem ex_ (T : Tx K mg) : insG K = true ∧ (∀ x ∈ insN, insB K x = true) ∧ (∀ p ∈ kits, kitF K p.1 p.2.1 p.2.2 = true) ∧ He.tupB K "KINDS" [.str "first", .str "last", .str "limit"] = true := by
  have h := T.says.more
  unfold exB at h
  simp only [Bool.and_eq_true, List.all_eq_true] at h
  exact ⟨h.1.1.1, h.1.1.2, h.1.2, h.2⟩
theorem isi (T : Tx K mg) {x : Str} (h : x ∈ insN) (c : Cls K (He.ga K x)) {H : Hp} {a dx : Addr} {fs : List (Str × V)} (e : H a = some (.ins (He.ga K x) dx fs)) : TyX K H (.ref a) (.ref (He.ga K x)) := by
  obtain ⟨g, n, _, _⟩ := T.ex_
  have n := n x h
  unfold insG at g
  unfold insB at n
  simp only [Bool.and_eq_true, decide_eq_true_eq] at g n
  exact .base (.ins e c n.1 g.1 g.2 n.2)
theorem kit (T : Tx K mg) (x y : Str) (b : Bool) (h : (x, y, b) ∈ kits) : PySem.W.kitOne K (.ref (He.ga K x)) (.ref (He.ga K y)) = some b := by
  obtain ⟨_, _, k, _⟩ := T.ex_
  exact of_decide_eq_true (k _ h)
theorem kinds (T : Tx K mg) (H : Hp) : SqT K H (He.ga K "KINDS") [.str "first", .str "last", .str "limit"] := He.tupB_ok T.ex_.2.2.2 H
theorem free_len (T : Tx K mg) : mg "len" = none := T.free 155 rfl
theorem free_range (T : Tx K mg) : mg "range" = none := T.free 156 rfl
theorem free_list (T : Tx K mg) : mg "list" = none := T.free 157 rfl
theorem free_tuple (T : Tx K mg) : mg "tuple" = none := T.free 158 rfl
theorem free_isinstance (T : Tx K mg) : mg "isinstance" = none := T.free 159 rfl
theorem free_enumerate (T : Tx K mg) : mg "enumerate" = none := T.free 160 rfl
theorem free_sum (T : Tx K mg) : mg "sum" = none := T.free 161 rfl
theorem free_max (T : Tx K mg) : mg "max" = none := T.free 162 rfl
theorem free_min (T : Tx K mg) : mg "min" = none := T.free 163 rfl
theorem free_all (T : Tx K mg) : mg "all" = none := T.free 164 rfl
theorem free_sorted (T : Tx K mg) : mg "sorted" = none := T.free 165 rfl
theorem free_set (T : Tx K mg) : mg "set" = none := T.free 166 rfl
theorem free_int (T : Tx K mg) : mg "int" = none := T.free 167 rfl
theorem free_bool (T : Tx K mg) : mg "bool" = none := T.free 168 rfl
theorem free_abs (T : Tx K mg) : mg "abs" = none := T.free 169 rfl
theorem free_divmod (T : Tx K mg) : mg "divmod" = none := T.free 170 rfl
theorem free_dict (T : Tx K mg) : mg "dict" = none := T.free 171 rfl
theorem int_FAR (T : Tx K mg) : ∃ u, mg "FAR" = some u ∧ RelV (.int 8) u := T.int 172 rfl
theorem int_MOST_QUIET (T : Tx K mg) : ∃ u, mg "MOST_QUIET" = some u ∧ RelV (.int 300) u := T.int 173 rfl
theorem int_MOST_TIMES (T : Tx K mg) : ∃ u, mg "MOST_TIMES" = some u ∧ RelV (.int 300) u := T.int 174 rfl
theorem str_LAST (T : Tx K mg) : ∃ u, mg "LAST" = some u ∧ RelV (.str "last") u := T.str 175 rfl
theorem str_FIRST (T : Tx K mg) : ∃ u, mg "FIRST" = some u ∧ RelV (.str "first") u := T.str 176 rfl
theorem str_LIMIT (T : Tx K mg) : ∃ u, mg "LIMIT" = some u ∧ RelV (.str "limit") u := T.str 177 rfl
theorem gl_KINDS (T : Tx K mg) : ∃ u, mg "KINDS" = some u ∧ RelV (.ref (He.ga K "KINDS")) u := ⟨_, T.glo 178 rfl, rfl⟩
theorem gl_Thing (T : Tx K mg) : ∃ u, mg "Thing" = some u ∧ RelV (.ref (He.ga K "Thing")) u := ⟨_, T.glo 154 rfl, rfl⟩
theorem fn_is_number (T : Tx K mg) : ∃ fd, FunD K "is_number" "is_number" (defArgs s_is_number) (defBody s_is_number) (defScope s_is_number) [] [] (He.ga K "is_number") fd := T.fnD 0 rfl
theorem hm_is_number (T : Tx K mg) : ∃ f, mg "is_number" = some (.ref f) ∧ PySem.W.keepIn K (.ref f) = true := ⟨_, T.glo 0 rfl, let ⟨_, F⟩ := T.fn_is_number; F.kp⟩
theorem mg_is_number (T : Tx K mg) : mg "is_number" = some (.ref (He.ga K "is_number")) := T.glo 0 rfl
theorem fn_settled_tuple (T : Tx K mg) : ∃ fd, FunD K "settled_tuple" "settled_tuple" (defArgs s_settled_tuple) (defBody s_settled_tuple) (defScope s_settled_tuple) [] [] (He.ga K "settled_tuple") fd := T.fnD 1 rfl
theorem hm_settled_tuple (T : Tx K mg) : ∃ f, mg "settled_tuple" = some (.ref f) ∧ PySem.W.keepIn K (.ref f) = true := ⟨_, T.glo 1 rfl, let ⟨_, F⟩ := T.fn_settled_tuple; F.kp⟩
theorem mg_settled_tuple (T : Tx K mg) : mg "settled_tuple" = some (.ref (He.ga K "settled_tuple")) := T.glo 1 rfl
theorem fn_check_stream (T : Tx K mg) : ∃ fd, FunD K "check_stream" "check_stream" (defArgs s_check_stream) (defBody s_check_stream) (defScope s_check_stream) [] [] (He.ga K "check_stream") fd := T.fnD 2 rfl
theorem hm_check_stream (T : Tx K mg) : ∃ f, mg "check_stream" = some (.ref f) ∧ PySem.W.keepIn K (.ref f) = true := ⟨_, T.glo 2 rfl, let ⟨_, F⟩ := T.fn_check_stream; F.kp⟩
theorem mg_check_stream (T : Tx K mg) : mg "check_stream" = some (.ref (He.ga K "check_stream")) := T.glo 2 rfl
theorem fn_is_member (T : Tx K mg) : ∃ fd, FunD K "is_member" "is_member" (defArgs s_is_member) (defBody s_is_member) (defScope s_is_member) [] [] (He.ga K "is_member") fd := T.fnD 3 rfl
theorem hm_is_member (T : Tx K mg) : ∃ f, mg "is_member" = some (.ref f) ∧ PySem.W.keepIn K (.ref f) = true := ⟨_, T.glo 3 rfl, let ⟨_, F⟩ := T.fn_is_member; F.kp⟩
theorem mg_is_member (T : Tx K mg) : mg "is_member" = some (.ref (He.ga K "is_member")) := T.glo 3 rfl
theorem fn_speakers (T : Tx K mg) : ∃ fd, FunD K "speakers" "speakers" (defArgs s_speakers) (defBody s_speakers) (defScope s_speakers) [] [] (He.ga K "speakers") fd := T.fnD 4 rfl
theorem hm_speakers (T : Tx K mg) : ∃ f, mg "speakers" = some (.ref f) ∧ PySem.W.keepIn K (.ref f) = true := ⟨_, T.glo 4 rfl, let ⟨_, F⟩ := T.fn_speakers; F.kp⟩
theorem mg_speakers (T : Tx K mg) : mg "speakers" = some (.ref (He.ga K "speakers")) := T.glo 4 rfl
theorem fn_kept_numbers (T : Tx K mg) : ∃ fd, FunD K "kept_numbers" "kept_numbers" (defArgs s_kept_numbers) (defBody s_kept_numbers) (defScope s_kept_numbers) [] [] (He.ga K "kept_numbers") fd := T.fnD 5 rfl
theorem hm_kept_numbers (T : Tx K mg) : ∃ f, mg "kept_numbers" = some (.ref f) ∧ PySem.W.keepIn K (.ref f) = true := ⟨_, T.glo 5 rfl, let ⟨_, F⟩ := T.fn_kept_numbers; F.kp⟩
theorem mg_kept_numbers (T : Tx K mg) : mg "kept_numbers" = some (.ref (He.ga K "kept_numbers")) := T.glo 5 rfl
theorem fn_told_events (T : Tx K mg) : ∃ fd, FunD K "told_events" "told_events" (defArgs s_told_events) (defBody s_told_events) (defScope s_told_events) [] [] (He.ga K "told_events") fd := T.fnD 6 rfl
theorem hm_told_events (T : Tx K mg) : ∃ f, mg "told_events" = some (.ref f) ∧ PySem.W.keepIn K (.ref f) = true := ⟨_, T.glo 6 rfl, let ⟨_, F⟩ := T.fn_told_events; F.kp⟩
theorem mg_told_events (T : Tx K mg) : mg "told_events" = some (.ref (He.ga K "told_events")) := T.glo 6 rfl
theorem fn_told_times (T : Tx K mg) : ∃ fd, FunD K "told_times" "told_times" (defArgs s_told_times) (defBody s_told_times) (defScope s_told_times) [] [] (He.ga K "told_times") fd := T.fnD 7 rfl
theorem hm_told_times (T : Tx K mg) : ∃ f, mg "told_times" = some (.ref f) ∧ PySem.W.keepIn K (.ref f) = true := ⟨_, T.glo 7 rfl, let ⟨_, F⟩ := T.fn_told_times; F.kp⟩
theorem mg_told_times (T : Tx K mg) : mg "told_times" = some (.ref (He.ga K "told_times")) := T.glo 7 rfl
theorem fn_are_gaps (T : Tx K mg) : ∃ fd, FunD K "are_gaps" "are_gaps" (defArgs s_are_gaps) (defBody s_are_gaps) (defScope s_are_gaps) [] [] (He.ga K "are_gaps") fd := T.fnD 8 rfl
theorem hm_are_gaps (T : Tx K mg) : ∃ f, mg "are_gaps" = some (.ref f) ∧ PySem.W.keepIn K (.ref f) = true := ⟨_, T.glo 8 rfl, let ⟨_, F⟩ := T.fn_are_gaps; F.kp⟩
theorem mg_are_gaps (T : Tx K mg) : mg "are_gaps" = some (.ref (He.ga K "are_gaps")) := T.glo 8 rfl
theorem fn_sums_of (T : Tx K mg) : ∃ fd, FunD K "sums_of" "sums_of" (defArgs s_sums_of) (defBody s_sums_of) (defScope s_sums_of) [] [] (He.ga K "sums_of") fd := T.fnD 9 rfl
theorem hm_sums_of (T : Tx K mg) : ∃ f, mg "sums_of" = some (.ref f) ∧ PySem.W.keepIn K (.ref f) = true := ⟨_, T.glo 9 rfl, let ⟨_, F⟩ := T.fn_sums_of; F.kp⟩
theorem mg_sums_of (T : Tx K mg) : mg "sums_of" = some (.ref (He.ga K "sums_of")) := T.glo 9 rfl
theorem fn_check_number (T : Tx K mg) : ∃ fd, FunD K "check_number" "check_number" (defArgs s_check_number) (defBody s_check_number) (defScope s_check_number) [] [] (He.ga K "check_number") fd := T.fnD 10 rfl
theorem hm_check_number (T : Tx K mg) : ∃ f, mg "check_number" = some (.ref f) ∧ PySem.W.keepIn K (.ref f) = true := ⟨_, T.glo 10 rfl, let ⟨_, F⟩ := T.fn_check_number; F.kp⟩
theorem mg_check_number (T : Tx K mg) : mg "check_number" = some (.ref (He.ga K "check_number")) := T.glo 10 rfl
theorem fn_amount_of (T : Tx K mg) : ∃ fd, FunD K "amount_of" "amount_of" (defArgs s_amount_of) (defBody s_amount_of) (defScope s_amount_of) [] [] (He.ga K "amount_of") fd := T.fnD 11 rfl
theorem hm_amount_of (T : Tx K mg) : ∃ f, mg "amount_of" = some (.ref f) ∧ PySem.W.keepIn K (.ref f) = true := ⟨_, T.glo 11 rfl, let ⟨_, F⟩ := T.fn_amount_of; F.kp⟩
theorem mg_amount_of (T : Tx K mg) : mg "amount_of" = some (.ref (He.ga K "amount_of")) := T.glo 11 rfl
theorem fn_event_at (T : Tx K mg) : ∃ fd, FunD K "event_at" "event_at" (defArgs s_event_at) (defBody s_event_at) (defScope s_event_at) [] [] (He.ga K "event_at") fd := T.fnD 12 rfl
theorem hm_event_at (T : Tx K mg) : ∃ f, mg "event_at" = some (.ref f) ∧ PySem.W.keepIn K (.ref f) = true := ⟨_, T.glo 12 rfl, let ⟨_, F⟩ := T.fn_event_at; F.kp⟩
theorem mg_event_at (T : Tx K mg) : mg "event_at" = some (.ref (He.ga K "event_at")) := T.glo 12 rfl
theorem fn_marked (T : Tx K mg) : ∃ fd, FunD K "marked" "marked" (defArgs s_marked) (defBody s_marked) (defScope s_marked) [] [] (He.ga K "marked") fd := T.fnD 13 rfl
theorem hm_marked (T : Tx K mg) : ∃ f, mg "marked" = some (.ref f) ∧ PySem.W.keepIn K (.ref f) = true := ⟨_, T.glo 13 rfl, let ⟨_, F⟩ := T.fn_marked; F.kp⟩
theorem mg_marked (T : Tx K mg) : mg "marked" = some (.ref (He.ga K "marked")) := T.glo 13 rfl
theorem fn_added (T : Tx K mg) : ∃ fd, FunD K "added" "added" (defArgs s_added) (defBody s_added) (defScope s_added) [] [] (He.ga K "added") fd := T.fnD 14 rfl
theorem hm_added (T : Tx K mg) : ∃ f, mg "added" = some (.ref f) ∧ PySem.W.keepIn K (.ref f) = true := ⟨_, T.glo 14 rfl, let ⟨_, F⟩ := T.fn_added; F.kp⟩
theorem mg_added (T : Tx K mg) : mg "added" = some (.ref (He.ga K "added")) := T.glo 14 rfl
theorem fn_joined_behind (T : Tx K mg) : ∃ fd, FunD K "joined_behind" "joined_behind" (defArgs s_joined_behind) (defBody s_joined_behind) (defScope s_joined_behind) [] [] (He.ga K "joined_behind") fd := T.fnD 15 rfl
theorem hm_joined_behind (T : Tx K mg) : ∃ f, mg "joined_behind" = some (.ref f) ∧ PySem.W.keepIn K (.ref f) = true := ⟨_, T.glo 15 rfl, let ⟨_, F⟩ := T.fn_joined_behind; F.kp⟩
theorem mg_joined_behind (T : Tx K mg) : mg "joined_behind" = some (.ref (He.ga K "joined_behind")) := T.glo 15 rfl
theorem fn_joined_ahead (T : Tx K mg) : ∃ fd, FunD K "joined_ahead" "joined_ahead" (defArgs s_joined_ahead) (defBody s_joined_ahead) (defScope s_joined_ahead) [] [] (He.ga K "joined_ahead") fd := T.fnD 16 rfl
theorem hm_joined_ahead (T : Tx K mg) : ∃ f, mg "joined_ahead" = some (.ref f) ∧ PySem.W.keepIn K (.ref f) = true := ⟨_, T.glo 16 rfl, let ⟨_, F⟩ := T.fn_joined_ahead; F.kp⟩
theorem mg_joined_ahead (T : Tx K mg) : mg "joined_ahead" = some (.ref (He.ga K "joined_ahead")) := T.glo 16 rfl
theorem fn_leading (T : Tx K mg) : ∃ fd, FunD K "leading" "leading" (defArgs s_leading) (defBody s_leading) (defScope s_leading) [] [] (He.ga K "leading") fd := T.fnD 17 rfl
theorem hm_leading (T : Tx K mg) : ∃ f, mg "leading" = some (.ref f) ∧ PySem.W.keepIn K (.ref f) = true := ⟨_, T.glo 17 rfl, let ⟨_, F⟩ := T.fn_leading; F.kp⟩
theorem mg_leading (T : Tx K mg) : mg "leading" = some (.ref (He.ga K "leading")) := T.glo 17 rfl
theorem fn_cut_at_quiet (T : Tx K mg) : ∃ fd, FunD K "cut_at_quiet" "cut_at_quiet" (defArgs s_cut_at_quiet) (defBody s_cut_at_quiet) (defScope s_cut_at_quiet) [] [] (He.ga K "cut_at_quiet") fd := T.fnD 18 rfl
theorem hm_cut_at_quiet (T : Tx K mg) : ∃ f, mg "cut_at_quiet" = some (.ref f) ∧ PySem.W.keepIn K (.ref f) = true := ⟨_, T.glo 18 rfl, let ⟨_, F⟩ := T.fn_cut_at_quiet; F.kp⟩
theorem mg_cut_at_quiet (T : Tx K mg) : mg "cut_at_quiet" = some (.ref (He.ga K "cut_at_quiet")) := T.glo 18 rfl
theorem fn_trains_of (T : Tx K mg) : ∃ fd, FunD K "trains_of" "trains_of" (defArgs s_trains_of) (defBody s_trains_of) (defScope s_trains_of) [] [] (He.ga K "trains_of") fd := T.fnD 19 rfl
theorem hm_trains_of (T : Tx K mg) : ∃ f, mg "trains_of" = some (.ref f) ∧ PySem.W.keepIn K (.ref f) = true := ⟨_, T.glo 19 rfl, let ⟨_, F⟩ := T.fn_trains_of; F.kp⟩
theorem mg_trains_of (T : Tx K mg) : mg "trains_of" = some (.ref (He.ga K "trains_of")) := T.glo 19 rfl
theorem fn_last_trains (T : Tx K mg) : ∃ fd, FunD K "last_trains" "last_trains" (defArgs s_last_trains) (defBody s_last_trains) (defScope s_last_trains) [] [] (He.ga K "last_trains") fd := T.fnD 20 rfl
theorem hm_last_trains (T : Tx K mg) : ∃ f, mg "last_trains" = some (.ref f) ∧ PySem.W.keepIn K (.ref f) = true := ⟨_, T.glo 20 rfl, let ⟨_, F⟩ := T.fn_last_trains; F.kp⟩
theorem mg_last_trains (T : Tx K mg) : mg "last_trains" = some (.ref (He.ga K "last_trains")) := T.glo 20 rfl
theorem fn_first_trains (T : Tx K mg) : ∃ fd, FunD K "first_trains" "first_trains" (defArgs s_first_trains) (defBody s_first_trains) (defScope s_first_trains) [] [] (He.ga K "first_trains") fd := T.fnD 21 rfl
theorem hm_first_trains (T : Tx K mg) : ∃ f, mg "first_trains" = some (.ref f) ∧ PySem.W.keepIn K (.ref f) = true := ⟨_, T.glo 21 rfl, let ⟨_, F⟩ := T.fn_first_trains; F.kp⟩
theorem mg_first_trains (T : Tx K mg) : mg "first_trains" = some (.ref (He.ga K "first_trains")) := T.glo 21 rfl
theorem fn_member_trains (T : Tx K mg) : ∃ fd, FunD K "member_trains" "member_trains" (defArgs s_member_trains) (defBody s_member_trains) (defScope s_member_trains) [] [] (He.ga K "member_trains") fd := T.fnD 22 rfl
theorem hm_member_trains (T : Tx K mg) : ∃ f, mg "member_trains" = some (.ref f) ∧ PySem.W.keepIn K (.ref f) = true := ⟨_, T.glo 22 rfl, let ⟨_, F⟩ := T.fn_member_trains; F.kp⟩
theorem mg_member_trains (T : Tx K mg) : mg "member_trains" = some (.ref (He.ga K "member_trains")) := T.glo 22 rfl
theorem fn_levels_of (T : Tx K mg) : ∃ fd, FunD K "levels_of" "levels_of" (defArgs s_levels_of) (defBody s_levels_of) (defScope s_levels_of) [] [] (He.ga K "levels_of") fd := T.fnD 23 rfl
theorem hm_levels_of (T : Tx K mg) : ∃ f, mg "levels_of" = some (.ref f) ∧ PySem.W.keepIn K (.ref f) = true := ⟨_, T.glo 23 rfl, let ⟨_, F⟩ := T.fn_levels_of; F.kp⟩
theorem mg_levels_of (T : Tx K mg) : mg "levels_of" = some (.ref (He.ga K "levels_of")) := T.glo 23 rfl
theorem fn_train_told (T : Tx K mg) : ∃ fd, FunD K "train_told" "train_told" (defArgs s_train_told) (defBody s_train_told) (defScope s_train_told) [] [] (He.ga K "train_told") fd := T.fnD 24 rfl
theorem hm_train_told (T : Tx K mg) : ∃ f, mg "train_told" = some (.ref f) ∧ PySem.W.keepIn K (.ref f) = true := ⟨_, T.glo 24 rfl, let ⟨_, F⟩ := T.fn_train_told; F.kp⟩
theorem mg_train_told (T : Tx K mg) : mg "train_told" = some (.ref (He.ga K "train_told")) := T.glo 24 rfl
theorem fn_record_places (T : Tx K mg) : ∃ fd, FunD K "record_places" "record_places" (defArgs s_record_places) (defBody s_record_places) (defScope s_record_places) [] [] (He.ga K "record_places") fd := T.fnD 25 rfl
theorem hm_record_places (T : Tx K mg) : ∃ f, mg "record_places" = some (.ref f) ∧ PySem.W.keepIn K (.ref f) = true := ⟨_, T.glo 25 rfl, let ⟨_, F⟩ := T.fn_record_places; F.kp⟩
theorem mg_record_places (T : Tx K mg) : mg "record_places" = some (.ref (He.ga K "record_places")) := T.glo 25 rfl
theorem fn_records_in (T : Tx K mg) : ∃ fd, FunD K "records_in" "records_in" (defArgs s_records_in) (defBody s_records_in) (defScope s_records_in) [] [] (He.ga K "records_in") fd := T.fnD 26 rfl
theorem hm_records_in (T : Tx K mg) : ∃ f, mg "records_in" = some (.ref f) ∧ PySem.W.keepIn K (.ref f) = true := ⟨_, T.glo 26 rfl, let ⟨_, F⟩ := T.fn_records_in; F.kp⟩
theorem mg_records_in (T : Tx K mg) : mg "records_in" = some (.ref (He.ga K "records_in")) := T.glo 26 rfl
theorem fn_records_of (T : Tx K mg) : ∃ fd, FunD K "records_of" "records_of" (defArgs s_records_of) (defBody s_records_of) (defScope s_records_of) [] [] (He.ga K "records_of") fd := T.fnD 27 rfl
theorem hm_records_of (T : Tx K mg) : ∃ f, mg "records_of" = some (.ref f) ∧ PySem.W.keepIn K (.ref f) = true := ⟨_, T.glo 27 rfl, let ⟨_, F⟩ := T.fn_records_of; F.kp⟩
theorem mg_records_of (T : Tx K mg) : mg "records_of" = some (.ref (He.ga K "records_of")) := T.glo 27 rfl
theorem fn_normal_form (T : Tx K mg) : ∃ fd, FunD K "normal_form" "normal_form" (defArgs s_normal_form) (defBody s_normal_form) (defScope s_normal_form) [] [] (He.ga K "normal_form") fd := T.fnD 28 rfl
theorem hm_normal_form (T : Tx K mg) : ∃ f, mg "normal_form" = some (.ref f) ∧ PySem.W.keepIn K (.ref f) = true := ⟨_, T.glo 28 rfl, let ⟨_, F⟩ := T.fn_normal_form; F.kp⟩
theorem mg_normal_form (T : Tx K mg) : mg "normal_form" = some (.ref (He.ga K "normal_form")) := T.glo 28 rfl
theorem fn_member_of (T : Tx K mg) : ∃ fd, FunD K "member_of" "member_of" (defArgs s_member_of) (defBody s_member_of) (defScope s_member_of) [] [] (He.ga K "member_of") fd := T.fnD 29 rfl
theorem hm_member_of (T : Tx K mg) : ∃ f, mg "member_of" = some (.ref f) ∧ PySem.W.keepIn K (.ref f) = true := ⟨_, T.glo 29 rfl, let ⟨_, F⟩ := T.fn_member_of; F.kp⟩
theorem mg_member_of (T : Tx K mg) : mg "member_of" = some (.ref (He.ga K "member_of")) := T.glo 29 rfl
theorem fn_same_rows (T : Tx K mg) : ∃ fd, FunD K "same_rows" "same_rows" (defArgs s_same_rows) (defBody s_same_rows) (defScope s_same_rows) [] [] (He.ga K "same_rows") fd := T.fnD 30 rfl
theorem hm_same_rows (T : Tx K mg) : ∃ f, mg "same_rows" = some (.ref f) ∧ PySem.W.keepIn K (.ref f) = true := ⟨_, T.glo 30 rfl, let ⟨_, F⟩ := T.fn_same_rows; F.kp⟩
theorem mg_same_rows (T : Tx K mg) : mg "same_rows" = some (.ref (He.ga K "same_rows")) := T.glo 30 rfl
theorem fn_idle_members (T : Tx K mg) : ∃ fd, FunD K "idle_members" "idle_members" (defArgs s_idle_members) (defBody s_idle_members) (defScope s_idle_members) [] [] (He.ga K "idle_members") fd := T.fnD 31 rfl
theorem hm_idle_members (T : Tx K mg) : ∃ f, mg "idle_members" = some (.ref f) ∧ PySem.W.keepIn K (.ref f) = true := ⟨_, T.glo 31 rfl, let ⟨_, F⟩ := T.fn_idle_members; F.kp⟩
theorem mg_idle_members (T : Tx K mg) : mg "idle_members" = some (.ref (He.ga K "idle_members")) := T.glo 31 rfl
theorem fn_is_contained (T : Tx K mg) : ∃ fd, FunD K "is_contained" "is_contained" (defArgs s_is_contained) (defBody s_is_contained) (defScope s_is_contained) [] [] (He.ga K "is_contained") fd := T.fnD 32 rfl
theorem hm_is_contained (T : Tx K mg) : ∃ f, mg "is_contained" = some (.ref f) ∧ PySem.W.keepIn K (.ref f) = true := ⟨_, T.glo 32 rfl, let ⟨_, F⟩ := T.fn_is_contained; F.kp⟩
theorem mg_is_contained (T : Tx K mg) : mg "is_contained" = some (.ref (He.ga K "is_contained")) := T.glo 32 rfl
theorem fn_rounded_up (T : Tx K mg) : ∃ fd, FunD K "rounded_up" "rounded_up" (defArgs s_rounded_up) (defBody s_rounded_up) (defScope s_rounded_up) [] [] (He.ga K "rounded_up") fd := T.fnD 33 rfl
theorem hm_rounded_up (T : Tx K mg) : ∃ f, mg "rounded_up" = some (.ref f) ∧ PySem.W.keepIn K (.ref f) = true := ⟨_, T.glo 33 rfl, let ⟨_, F⟩ := T.fn_rounded_up; F.kp⟩
theorem mg_rounded_up (T : Tx K mg) : mg "rounded_up" = some (.ref (He.ga K "rounded_up")) := T.glo 33 rfl
theorem fn_greatest_quiet (T : Tx K mg) : ∃ fd, FunD K "greatest_quiet" "greatest_quiet" (defArgs s_greatest_quiet) (defBody s_greatest_quiet) (defScope s_greatest_quiet) [] [] (He.ga K "greatest_quiet") fd := T.fnD 34 rfl
theorem hm_greatest_quiet (T : Tx K mg) : ∃ f, mg "greatest_quiet" = some (.ref f) ∧ PySem.W.keepIn K (.ref f) = true := ⟨_, T.glo 34 rfl, let ⟨_, F⟩ := T.fn_greatest_quiet; F.kp⟩
theorem mg_greatest_quiet (T : Tx K mg) : mg "greatest_quiet" = some (.ref (He.ga K "greatest_quiet")) := T.glo 34 rfl
theorem fn_pair_fate (T : Tx K mg) : ∃ fd, FunD K "pair_fate" "pair_fate" (defArgs s_pair_fate) (defBody s_pair_fate) (defScope s_pair_fate) [] [] (He.ga K "pair_fate") fd := T.fnD 35 rfl
theorem hm_pair_fate (T : Tx K mg) : ∃ f, mg "pair_fate" = some (.ref f) ∧ PySem.W.keepIn K (.ref f) = true := ⟨_, T.glo 35 rfl, let ⟨_, F⟩ := T.fn_pair_fate; F.kp⟩
theorem mg_pair_fate (T : Tx K mg) : mg "pair_fate" = some (.ref (He.ga K "pair_fate")) := T.glo 35 rfl
theorem fn_parting_gap (T : Tx K mg) : ∃ fd, FunD K "parting_gap" "parting_gap" (defArgs s_parting_gap) (defBody s_parting_gap) (defScope s_parting_gap) [] [] (He.ga K "parting_gap") fd := T.fnD 36 rfl
theorem hm_parting_gap (T : Tx K mg) : ∃ f, mg "parting_gap" = some (.ref f) ∧ PySem.W.keepIn K (.ref f) = true := ⟨_, T.glo 36 rfl, let ⟨_, F⟩ := T.fn_parting_gap; F.kp⟩
theorem mg_parting_gap (T : Tx K mg) : mg "parting_gap" = some (.ref (He.ga K "parting_gap")) := T.glo 36 rfl
theorem fn_kinds_parted (T : Tx K mg) : ∃ fd, FunD K "kinds_parted" "kinds_parted" (defArgs s_kinds_parted) (defBody s_kinds_parted) (defScope s_kinds_parted) [] [] (He.ga K "kinds_parted") fd := T.fnD 37 rfl
theorem hm_kinds_parted (T : Tx K mg) : ∃ f, mg "kinds_parted" = some (.ref f) ∧ PySem.W.keepIn K (.ref f) = true := ⟨_, T.glo 37 rfl, let ⟨_, F⟩ := T.fn_kinds_parted; F.kp⟩
theorem mg_kinds_parted (T : Tx K mg) : mg "kinds_parted" = some (.ref (He.ga K "kinds_parted")) := T.glo 37 rfl
theorem fn_less_parted (T : Tx K mg) : ∃ fd, FunD K "less_parted" "less_parted" (defArgs s_less_parted) (defBody s_less_parted) (defScope s_less_parted) [] [] (He.ga K "less_parted") fd := T.fnD 38 rfl
theorem hm_less_parted (T : Tx K mg) : ∃ f, mg "less_parted" = some (.ref f) ∧ PySem.W.keepIn K (.ref f) = true := ⟨_, T.glo 38 rfl, let ⟨_, F⟩ := T.fn_less_parted; F.kp⟩
theorem mg_less_parted (T : Tx K mg) : mg "less_parted" = some (.ref (He.ga K "less_parted")) := T.glo 38 rfl
theorem fn_records_parted (T : Tx K mg) : ∃ fd, FunD K "records_parted" "records_parted" (defArgs s_records_parted) (defBody s_records_parted) (defScope s_records_parted) [] [] (He.ga K "records_parted") fd := T.fnD 39 rfl
theorem hm_records_parted (T : Tx K mg) : ∃ f, mg "records_parted" = some (.ref f) ∧ PySem.W.keepIn K (.ref f) = true := ⟨_, T.glo 39 rfl, let ⟨_, F⟩ := T.fn_records_parted; F.kp⟩
theorem mg_records_parted (T : Tx K mg) : mg "records_parted" = some (.ref (He.ga K "records_parted")) := T.glo 39 rfl
theorem fn_parting (T : Tx K mg) : ∃ fd, FunD K "parting" "parting" (defArgs s_parting) (defBody s_parting) (defScope s_parting) [] [] (He.ga K "parting") fd := T.fnD 40 rfl
theorem hm_parting (T : Tx K mg) : ∃ f, mg "parting" = some (.ref f) ∧ PySem.W.keepIn K (.ref f) = true := ⟨_, T.glo 40 rfl, let ⟨_, F⟩ := T.fn_parting; F.kp⟩
theorem mg_parting (T : Tx K mg) : mg "parting" = some (.ref (He.ga K "parting")) := T.glo 40 rfl
theorem fn_check_numbers (T : Tx K mg) : ∃ fd, FunD K "check_numbers" "check_numbers" (defArgs s_check_numbers) (defBody s_check_numbers) (defScope s_check_numbers) [] [] (He.ga K "check_numbers") fd := T.fnD 41 rfl
theorem hm_check_numbers (T : Tx K mg) : ∃ f, mg "check_numbers" = some (.ref f) ∧ PySem.W.keepIn K (.ref f) = true := ⟨_, T.glo 41 rfl, let ⟨_, F⟩ := T.fn_check_numbers; F.kp⟩
theorem mg_check_numbers (T : Tx K mg) : mg "check_numbers" = some (.ref (He.ga K "check_numbers")) := T.glo 41 rfl
theorem fn_stretches (T : Tx K mg) : ∃ fd, FunD K "stretches" "stretches" (defArgs s_stretches) (defBody s_stretches) (defScope s_stretches) [] [] (He.ga K "stretches") fd := T.fnD 42 rfl
theorem hm_stretches (T : Tx K mg) : ∃ f, mg "stretches" = some (.ref f) ∧ PySem.W.keepIn K (.ref f) = true := ⟨_, T.glo 42 rfl, let ⟨_, F⟩ := T.fn_stretches; F.kp⟩
theorem mg_stretches (T : Tx K mg) : mg "stretches" = some (.ref (He.ga K "stretches")) := T.glo 42 rfl
theorem fn_count_leading (T : Tx K mg) : ∃ fd, FunD K "count_leading" "count_leading" (defArgs s_count_leading) (defBody s_count_leading) (defScope s_count_leading) [] [] (He.ga K "count_leading") fd := T.fnD 43 rfl
theorem hm_count_leading (T : Tx K mg) : ∃ f, mg "count_leading" = some (.ref f) ∧ PySem.W.keepIn K (.ref f) = true := ⟨_, T.glo 43 rfl, let ⟨_, F⟩ := T.fn_count_leading; F.kp⟩
theorem mg_count_leading (T : Tx K mg) : mg "count_leading" = some (.ref (He.ga K "count_leading")) := T.glo 43 rfl
theorem fn_can_tell (T : Tx K mg) : ∃ fd, FunD K "can_tell" "can_tell" (defArgs s_can_tell) (defBody s_can_tell) (defScope s_can_tell) [] [] (He.ga K "can_tell") fd := T.fnD 44 rfl
theorem hm_can_tell (T : Tx K mg) : ∃ f, mg "can_tell" = some (.ref f) ∧ PySem.W.keepIn K (.ref f) = true := ⟨_, T.glo 44 rfl, let ⟨_, F⟩ := T.fn_can_tell; F.kp⟩
theorem mg_can_tell (T : Tx K mg) : mg "can_tell" = some (.ref (He.ga K "can_tell")) := T.glo 44 rfl
theorem fn_folded (T : Tx K mg) : ∃ fd, FunD K "folded" "folded" (defArgs s_folded) (defBody s_folded) (defScope s_folded) [] [] (He.ga K "folded") fd := T.fnD 45 rfl
theorem hm_folded (T : Tx K mg) : ∃ f, mg "folded" = some (.ref f) ∧ PySem.W.keepIn K (.ref f) = true := ⟨_, T.glo 45 rfl, let ⟨_, F⟩ := T.fn_folded; F.kp⟩
theorem mg_folded (T : Tx K mg) : mg "folded" = some (.ref (He.ga K "folded")) := T.glo 45 rfl
theorem fn_count_pasts (T : Tx K mg) : ∃ fd, FunD K "count_pasts" "count_pasts" (defArgs s_count_pasts) (defBody s_count_pasts) (defScope s_count_pasts) [] [] (He.ga K "count_pasts") fd := T.fnD 46 rfl
theorem hm_count_pasts (T : Tx K mg) : ∃ f, mg "count_pasts" = some (.ref f) ∧ PySem.W.keepIn K (.ref f) = true := ⟨_, T.glo 46 rfl, let ⟨_, F⟩ := T.fn_count_pasts; F.kp⟩
theorem mg_count_pasts (T : Tx K mg) : mg "count_pasts" = some (.ref (He.ga K "count_pasts")) := T.glo 46 rfl
theorem fn__law_cell_at (T : Tx K mg) : ∃ fd, FunD K "_law_cell_at" "_law_cell_at" (defArgs s__law_cell_at) (defBody s__law_cell_at) (defScope s__law_cell_at) [] [] (He.ga K "_law_cell_at") fd := T.fnD 47 rfl
theorem hm__law_cell_at (T : Tx K mg) : ∃ f, mg "_law_cell_at" = some (.ref f) ∧ PySem.W.keepIn K (.ref f) = true := ⟨_, T.glo 47 rfl, let ⟨_, F⟩ := T.fn__law_cell_at; F.kp⟩
theorem mg__law_cell_at (T : Tx K mg) : mg "_law_cell_at" = some (.ref (He.ga K "_law_cell_at")) := T.glo 47 rfl
theorem fn__law_state (T : Tx K mg) : ∃ fd, FunD K "_law_state" "_law_state" (defArgs s__law_state) (defBody s__law_state) (defScope s__law_state) [] [] (He.ga K "_law_state") fd := T.fnD 48 rfl
theorem hm__law_state (T : Tx K mg) : ∃ f, mg "_law_state" = some (.ref f) ∧ PySem.W.keepIn K (.ref f) = true := ⟨_, T.glo 48 rfl, let ⟨_, F⟩ := T.fn__law_state; F.kp⟩
theorem mg__law_state (T : Tx K mg) : mg "_law_state" = some (.ref (He.ga K "_law_state")) := T.glo 48 rfl
theorem fn__law_digit (T : Tx K mg) : ∃ fd, FunD K "_law_digit" "_law_digit" (defArgs s__law_digit) (defBody s__law_digit) (defScope s__law_digit) [] [] (He.ga K "_law_digit") fd := T.fnD 49 rfl
theorem hm__law_digit (T : Tx K mg) : ∃ f, mg "_law_digit" = some (.ref f) ∧ PySem.W.keepIn K (.ref f) = true := ⟨_, T.glo 49 rfl, let ⟨_, F⟩ := T.fn__law_digit; F.kp⟩
theorem mg__law_digit (T : Tx K mg) : mg "_law_digit" = some (.ref (He.ga K "_law_digit")) := T.glo 49 rfl
theorem fn__law_kinds (T : Tx K mg) : ∃ fd, FunD K "_law_kinds" "_law_kinds" (defArgs s__law_kinds) (defBody s__law_kinds) (defScope s__law_kinds) [] [] (He.ga K "_law_kinds") fd := T.fnD 50 rfl
theorem hm__law_kinds (T : Tx K mg) : ∃ f, mg "_law_kinds" = some (.ref f) ∧ PySem.W.keepIn K (.ref f) = true := ⟨_, T.glo 50 rfl, let ⟨_, F⟩ := T.fn__law_kinds; F.kp⟩
theorem mg__law_kinds (T : Tx K mg) : mg "_law_kinds" = some (.ref (He.ga K "_law_kinds")) := T.glo 50 rfl
theorem fn__law_members (T : Tx K mg) : ∃ fd, FunD K "_law_members" "_law_members" (defArgs s__law_members) (defBody s__law_members) (defScope s__law_members) [] [] (He.ga K "_law_members") fd := T.fnD 51 rfl
theorem hm__law_members (T : Tx K mg) : ∃ f, mg "_law_members" = some (.ref f) ∧ PySem.W.keepIn K (.ref f) = true := ⟨_, T.glo 51 rfl, let ⟨_, F⟩ := T.fn__law_members; F.kp⟩
theorem mg__law_members (T : Tx K mg) : mg "_law_members" = some (.ref (He.ga K "_law_members")) := T.glo 51 rfl
theorem fn__law_made (T : Tx K mg) : ∃ fd, FunD K "_law_made" "_law_made" (defArgs s__law_made) (defBody s__law_made) (defScope s__law_made) [] [] (He.ga K "_law_made") fd := T.fnD 52 rfl
theorem hm__law_made (T : Tx K mg) : ∃ f, mg "_law_made" = some (.ref f) ∧ PySem.W.keepIn K (.ref f) = true := ⟨_, T.glo 52 rfl, let ⟨_, F⟩ := T.fn__law_made; F.kp⟩
theorem mg__law_made (T : Tx K mg) : mg "_law_made" = some (.ref (He.ga K "_law_made")) := T.glo 52 rfl
theorem fn__law_stream (T : Tx K mg) : ∃ fd, FunD K "_law_stream" "_law_stream" (defArgs s__law_stream) (defBody s__law_stream) (defScope s__law_stream) [] [] (He.ga K "_law_stream") fd := T.fnD 53 rfl
theorem hm__law_stream (T : Tx K mg) : ∃ f, mg "_law_stream" = some (.ref f) ∧ PySem.W.keepIn K (.ref f) = true := ⟨_, T.glo 53 rfl, let ⟨_, F⟩ := T.fn__law_stream; F.kp⟩
theorem mg__law_stream (T : Tx K mg) : mg "_law_stream" = some (.ref (He.ga K "_law_stream")) := T.glo 53 rfl
theorem fn__law_some (T : Tx K mg) : ∃ fd, FunD K "_law_some" "_law_some" (defArgs s__law_some) (defBody s__law_some) (defScope s__law_some) [] [] (He.ga K "_law_some") fd := T.fnD 54 rfl
theorem hm__law_some (T : Tx K mg) : ∃ f, mg "_law_some" = some (.ref f) ∧ PySem.W.keepIn K (.ref f) = true := ⟨_, T.glo 54 rfl, let ⟨_, F⟩ := T.fn__law_some; F.kp⟩
theorem mg__law_some (T : Tx K mg) : mg "_law_some" = some (.ref (He.ga K "_law_some")) := T.glo 54 rfl
theorem fn__law_turned (T : Tx K mg) : ∃ fd, FunD K "_law_turned" "_law_turned" (defArgs s__law_turned) (defBody s__law_turned) (defScope s__law_turned) [] [] (He.ga K "_law_turned") fd := T.fnD 55 rfl
theorem hm__law_turned (T : Tx K mg) : ∃ f, mg "_law_turned" = some (.ref f) ∧ PySem.W.keepIn K (.ref f) = true := ⟨_, T.glo 55 rfl, let ⟨_, F⟩ := T.fn__law_turned; F.kp⟩
theorem mg__law_turned (T : Tx K mg) : mg "_law_turned" = some (.ref (He.ga K "_law_turned")) := T.glo 55 rfl
theorem fn__law_numbers_right (T : Tx K mg) : ∃ fd, FunD K "_law_numbers_right" "_law_numbers_right" (defArgs s__law_numbers_right) (defBody s__law_numbers_right) (defScope s__law_numbers_right) [] [] (He.ga K "_law_numbers_right") fd := T.fnD 56 rfl
theorem hm__law_numbers_right (T : Tx K mg) : ∃ f, mg "_law_numbers_right" = some (.ref f) ∧ PySem.W.keepIn K (.ref f) = true := ⟨_, T.glo 56 rfl, let ⟨_, F⟩ := T.fn__law_numbers_right; F.kp⟩
theorem mg__law_numbers_right (T : Tx K mg) : mg "_law_numbers_right" = some (.ref (He.ga K "_law_numbers_right")) := T.glo 56 rfl
theorem fn__law_pasts_right (T : Tx K mg) : ∃ fd, FunD K "_law_pasts_right" "_law_pasts_right" (defArgs s__law_pasts_right) (defBody s__law_pasts_right) (defScope s__law_pasts_right) [] [] (He.ga K "_law_pasts_right") fd := T.fnD 57 rfl
theorem hm__law_pasts_right (T : Tx K mg) : ∃ f, mg "_law_pasts_right" = some (.ref f) ∧ PySem.W.keepIn K (.ref f) = true := ⟨_, T.glo 57 rfl, let ⟨_, F⟩ := T.fn__law_pasts_right; F.kp⟩
theorem mg__law_pasts_right (T : Tx K mg) : mg "_law_pasts_right" = some (.ref (He.ga K "_law_pasts_right")) := T.glo 57 rfl
theorem fn__law_trains_right (T : Tx K mg) : ∃ fd, FunD K "_law_trains_right" "_law_trains_right" (defArgs s__law_trains_right) (defBody s__law_trains_right) (defScope s__law_trains_right) [] [] (He.ga K "_law_trains_right") fd := T.fnD 58 rfl
theorem hm__law_trains_right (T : Tx K mg) : ∃ f, mg "_law_trains_right" = some (.ref f) ∧ PySem.W.keepIn K (.ref f) = true := ⟨_, T.glo 58 rfl, let ⟨_, F⟩ := T.fn__law_trains_right; F.kp⟩
theorem mg__law_trains_right (T : Tx K mg) : mg "_law_trains_right" = some (.ref (He.ga K "_law_trains_right")) := T.glo 58 rfl
theorem fn__law_is_plain (T : Tx K mg) : ∃ fd, FunD K "_law_is_plain" "_law_is_plain" (defArgs s__law_is_plain) (defBody s__law_is_plain) (defScope s__law_is_plain) [] [] (He.ga K "_law_is_plain") fd := T.fnD 59 rfl
theorem hm__law_is_plain (T : Tx K mg) : ∃ f, mg "_law_is_plain" = some (.ref f) ∧ PySem.W.keepIn K (.ref f) = true := ⟨_, T.glo 59 rfl, let ⟨_, F⟩ := T.fn__law_is_plain; F.kp⟩
theorem mg__law_is_plain (T : Tx K mg) : mg "_law_is_plain" = some (.ref (He.ga K "_law_is_plain")) := T.glo 59 rfl
theorem fn__law_pairs_right (T : Tx K mg) : ∃ fd, FunD K "_law_pairs_right" "_law_pairs_right" (defArgs s__law_pairs_right) (defBody s__law_pairs_right) (defScope s__law_pairs_right) [] [] (He.ga K "_law_pairs_right") fd := T.fnD 60 rfl
theorem hm__law_pairs_right (T : Tx K mg) : ∃ f, mg "_law_pairs_right" = some (.ref f) ∧ PySem.W.keepIn K (.ref f) = true := ⟨_, T.glo 60 rfl, let ⟨_, F⟩ := T.fn__law_pairs_right; F.kp⟩
theorem mg__law_pairs_right (T : Tx K mg) : mg "_law_pairs_right" = some (.ref (He.ga K "_law_pairs_right")) := T.glo 60 rfl
theorem fn_law (T : Tx K mg) : ∃ fd, FunD K "law" "law" (defArgs s_law) (defBody s_law) (defScope s_law) [] [] (He.ga K "law") fd := T.fnD 61 rfl
theorem hm_law (T : Tx K mg) : ∃ f, mg "law" = some (.ref f) ∧ PySem.W.keepIn K (.ref f) = true := ⟨_, T.glo 61 rfl, let ⟨_, F⟩ := T.fn_law; F.kp⟩
theorem mg_law (T : Tx K mg) : mg "law" = some (.ref (He.ga K "law")) := T.glo 61 rfl
theorem cl_Last (T : Tx K mg) : Cls K (He.ga K "Last") := He.cls_ok (T.fact 63 rfl)
theorem mk_Last (T : Tx K mg) : Mk K (He.ga K "Last") (He.ma K (He.ga K "Last") "__init__") := He.mkr_ok (T.fact 64 rfl)
theorem mg_Last (T : Tx K mg) : mg "Last" = some (.ref (He.ga K "Last")) := T.glo 62 rfl
theorem hm_Last (T : Tx K mg) : ∃ f, mg "Last" = some (.ref f) ∧ PySem.W.keepIn K (.ref f) = true := ⟨_, T.mg_Last, T.mk_Last.kp⟩
theorem gl_Last (T : Tx K mg) : ∃ u, mg "Last" = some u ∧ RelV (.ref (He.ga K "Last")) u := ⟨_, T.mg_Last, rfl⟩
theorem no_Last_q (T : Tx K mg) : NoAttr K (He.ga K "Last") "q" := He.noat_ok (T.fact 65 rfl)
theorem fn_Last_D_initD_ (T : Tx K mg) : ∃ fd, FunD K "__init__" "Member.__init__" (defArgs s_Member_D_initD_) (defBody s_Member_D_initD_) (defScope s_Member_D_initD_) [] [] (He.ma K (He.ga K "Last") "__init__") fd := T.fnD 62 rfl
theorem fn_Last_class_name (T : Tx K mg) : ∃ fd, FunD K "class_name" "Last.class_name" (defArgs s_Last_class_name) (defBody s_Last_class_name) (defScope s_Last_class_name) [] [] (He.ma K (He.ga K "Last") "class_name") fd := T.fnD 63 rfl
theorem me_Last_class_name (T : Tx K mg) : Meth K (He.ga K "Last") "class_name" (He.ma K (He.ga K "Last") "class_name") := He.meth_ok (T.fact 66 rfl)
theorem fn_Last_kept (T : Tx K mg) : ∃ fd, FunD K "kept" "Last.kept" (defArgs s_Last_kept) (defBody s_Last_kept) (defScope s_Last_kept) [] [] (He.ma K (He.ga K "Last") "kept") fd := T.fnD 64 rfl
theorem me_Last_kept (T : Tx K mg) : Meth K (He.ga K "Last") "kept" (He.ma K (He.ga K "Last") "kept") := He.meth_ok (T.fact 67 rfl)
theorem fn_Last_waits (T : Tx K mg) : ∃ fd, FunD K "waits" "Last.waits" (defArgs s_Last_waits) (defBody s_Last_waits) (defScope s_Last_waits) [] [] (He.ma K (He.ga K "Last") "waits") fd := T.fnD 65 rfl
theorem me_Last_waits (T : Tx K mg) : Meth K (He.ga K "Last") "waits" (He.ma K (He.ga K "Last") "waits") := He.meth_ok (T.fact 68 rfl)
theorem cl_First (T : Tx K mg) : Cls K (He.ga K "First") := He.cls_ok (T.fact 70 rfl)
theorem mk_First (T : Tx K mg) : Mk K (He.ga K "First") (He.ma K (He.ga K "First") "__init__") := He.mkr_ok (T.fact 71 rfl)
theorem mg_First (T : Tx K mg) : mg "First" = some (.ref (He.ga K "First")) := T.glo 69 rfl
theorem hm_First (T : Tx K mg) : ∃ f, mg "First" = some (.ref f) ∧ PySem.W.keepIn K (.ref f) = true := ⟨_, T.mg_First, T.mk_First.kp⟩
theorem gl_First (T : Tx K mg) : ∃ u, mg "First" = some u ∧ RelV (.ref (He.ga K "First")) u := ⟨_, T.mg_First, rfl⟩
theorem no_First_q (T : Tx K mg) : NoAttr K (He.ga K "First") "q" := He.noat_ok (T.fact 72 rfl)
theorem fn_First_D_initD_ (T : Tx K mg) : ∃ fd, FunD K "__init__" "Member.__init__" (defArgs s_Member_D_initD_) (defBody s_Member_D_initD_) (defScope s_Member_D_initD_) [] [] (He.ma K (He.ga K "First") "__init__") fd := T.fnD 66 rfl
theorem fn_First_class_name (T : Tx K mg) : ∃ fd, FunD K "class_name" "First.class_name" (defArgs s_First_class_name) (defBody s_First_class_name) (defScope s_First_class_name) [] [] (He.ma K (He.ga K "First") "class_name") fd := T.fnD 67 rfl
theorem me_First_class_name (T : Tx K mg) : Meth K (He.ga K "First") "class_name" (He.ma K (He.ga K "First") "class_name") := He.meth_ok (T.fact 73 rfl)
theorem fn_First_kept (T : Tx K mg) : ∃ fd, FunD K "kept" "First.kept" (defArgs s_First_kept) (defBody s_First_kept) (defScope s_First_kept) [] [] (He.ma K (He.ga K "First") "kept") fd := T.fnD 68 rfl
theorem me_First_kept (T : Tx K mg) : Meth K (He.ga K "First") "kept" (He.ma K (He.ga K "First") "kept") := He.meth_ok (T.fact 74 rfl)
theorem fn_First_waits (T : Tx K mg) : ∃ fd, FunD K "waits" "Member.waits" (defArgs s_Member_waits) (defBody s_Member_waits) (defScope s_Member_waits) [] [] (He.ma K (He.ga K "First") "waits") fd := T.fnD 69 rfl
theorem me_First_waits (T : Tx K mg) : Meth K (He.ga K "First") "waits" (He.ma K (He.ga K "First") "waits") := He.meth_ok (T.fact 75 rfl)
theorem cl_Limit (T : Tx K mg) : Cls K (He.ga K "Limit") := He.cls_ok (T.fact 77 rfl)
theorem mk_Limit (T : Tx K mg) : Mk K (He.ga K "Limit") (He.ma K (He.ga K "Limit") "__init__") := He.mkr_ok (T.fact 78 rfl)
theorem mg_Limit (T : Tx K mg) : mg "Limit" = some (.ref (He.ga K "Limit")) := T.glo 76 rfl
theorem hm_Limit (T : Tx K mg) : ∃ f, mg "Limit" = some (.ref f) ∧ PySem.W.keepIn K (.ref f) = true := ⟨_, T.mg_Limit, T.mk_Limit.kp⟩
theorem gl_Limit (T : Tx K mg) : ∃ u, mg "Limit" = some u ∧ RelV (.ref (He.ga K "Limit")) u := ⟨_, T.mg_Limit, rfl⟩
theorem no_Limit_q (T : Tx K mg) : NoAttr K (He.ga K "Limit") "q" := He.noat_ok (T.fact 79 rfl)
theorem fn_Limit_D_initD_ (T : Tx K mg) : ∃ fd, FunD K "__init__" "Member.__init__" (defArgs s_Member_D_initD_) (defBody s_Member_D_initD_) (defScope s_Member_D_initD_) [] [] (He.ma K (He.ga K "Limit") "__init__") fd := T.fnD 70 rfl
theorem fn_Limit_kept (T : Tx K mg) : ∃ fd, FunD K "kept" "Limit.kept" (defArgs s_Limit_kept) (defBody s_Limit_kept) (defScope s_Limit_kept) [] [] (He.ma K (He.ga K "Limit") "kept") fd := T.fnD 71 rfl
theorem me_Limit_kept (T : Tx K mg) : Meth K (He.ga K "Limit") "kept" (He.ma K (He.ga K "Limit") "kept") := He.meth_ok (T.fact 80 rfl)
theorem cl_Delay (T : Tx K mg) : Cls K (He.ga K "Delay") := He.cls_ok (T.fact 82 rfl)
theorem mk_Delay (T : Tx K mg) : Mk K (He.ga K "Delay") (He.ma K (He.ga K "Delay") "__init__") := He.mkr_ok (T.fact 83 rfl)
theorem mg_Delay (T : Tx K mg) : mg "Delay" = some (.ref (He.ga K "Delay")) := T.glo 81 rfl
theorem hm_Delay (T : Tx K mg) : ∃ f, mg "Delay" = some (.ref f) ∧ PySem.W.keepIn K (.ref f) = true := ⟨_, T.mg_Delay, T.mk_Delay.kp⟩
theorem gl_Delay (T : Tx K mg) : ∃ u, mg "Delay" = some u ∧ RelV (.ref (He.ga K "Delay")) u := ⟨_, T.mg_Delay, rfl⟩
theorem no_Delay_d (T : Tx K mg) : NoAttr K (He.ga K "Delay") "d" := He.noat_ok (T.fact 84 rfl)
theorem fn_Delay_D_initD_ (T : Tx K mg) : ∃ fd, FunD K "__init__" "Delay.__init__" (defArgs s_Delay_D_initD_) (defBody s_Delay_D_initD_) (defScope s_Delay_D_initD_) [] [] (He.ma K (He.ga K "Delay") "__init__") fd := T.fnD 72 rfl
theorem fn_Delay_kept (T : Tx K mg) : ∃ fd, FunD K "kept" "Delay.kept" (defArgs s_Delay_kept) (defBody s_Delay_kept) (defScope s_Delay_kept) [] [] (He.ma K (He.ga K "Delay") "kept") fd := T.fnD 73 rfl
theorem me_Delay_kept (T : Tx K mg) : Meth K (He.ga K "Delay") "kept" (He.ma K (He.ga K "Delay") "kept") := He.meth_ok (T.fact 85 rfl)
theorem fn_Delay_waits (T : Tx K mg) : ∃ fd, FunD K "waits" "Delay.waits" (defArgs s_Delay_waits) (defBody s_Delay_waits) (defScope s_Delay_waits) [] [] (He.ma K (He.ga K "Delay") "waits") fd := T.fnD 74 rfl
theorem me_Delay_waits (T : Tx K mg) : Meth K (He.ga K "Delay") "waits" (He.ma K (He.ga K "Delay") "waits") := He.meth_ok (T.fact 86 rfl)
theorem cl_Row (T : Tx K mg) : Cls K (He.ga K "Row") := He.cls_ok (T.fact 88 rfl)
theorem mk_Row (T : Tx K mg) : Mk K (He.ga K "Row") (He.ma K (He.ga K "Row") "__init__") := He.mkr_ok (T.fact 89 rfl)
theorem mg_Row (T : Tx K mg) : mg "Row" = some (.ref (He.ga K "Row")) := T.glo 87 rfl
theorem hm_Row (T : Tx K mg) : ∃ f, mg "Row" = some (.ref f) ∧ PySem.W.keepIn K (.ref f) = true := ⟨_, T.mg_Row, T.mk_Row.kp⟩
theorem gl_Row (T : Tx K mg) : ∃ u, mg "Row" = some u ∧ RelV (.ref (He.ga K "Row")) u := ⟨_, T.mg_Row, rfl⟩
theorem no_Row_members (T : Tx K mg) : NoAttr K (He.ga K "Row") "members" := He.noat_ok (T.fact 90 rfl)
theorem fn_Row_D_initD_ (T : Tx K mg) : ∃ fd, FunD K "__init__" "Row.__init__" (defArgs s_Row_D_initD_) (defBody s_Row_D_initD_) (defScope s_Row_D_initD_) [] [] (He.ma K (He.ga K "Row") "__init__") fd := T.fnD 75 rfl
theorem fn_Row_delays (T : Tx K mg) : ∃ fd, FunD K "delays" "Row.delays" (defArgs s_Row_delays) (defBody s_Row_delays) (defScope s_Row_delays) [] [] (He.ma K (He.ga K "Row") "delays") fd := T.fnD 76 rfl
theorem me_Row_delays (T : Tx K mg) : Meth K (He.ga K "Row") "delays" (He.ma K (He.ga K "Row") "delays") := He.meth_ok (T.fact 91 rfl)
theorem cl_Told (T : Tx K mg) : Cls K (He.ga K "Told") := He.cls_ok (T.fact 93 rfl)
theorem mk_Told (T : Tx K mg) : Mk K (He.ga K "Told") (He.ma K (He.ga K "Told") "__init__") := He.mkr_ok (T.fact 94 rfl)
theorem mg_Told (T : Tx K mg) : mg "Told" = some (.ref (He.ga K "Told")) := T.glo 92 rfl
theorem hm_Told (T : Tx K mg) : ∃ f, mg "Told" = some (.ref f) ∧ PySem.W.keepIn K (.ref f) = true := ⟨_, T.mg_Told, T.mk_Told.kp⟩
theorem gl_Told (T : Tx K mg) : ∃ u, mg "Told" = some u ∧ RelV (.ref (He.ga K "Told")) u := ⟨_, T.mg_Told, rfl⟩
theorem no_Told_number (T : Tx K mg) : NoAttr K (He.ga K "Told") "number" := He.noat_ok (T.fact 95 rfl)
theorem no_Told_time (T : Tx K mg) : NoAttr K (He.ga K "Told") "time" := He.noat_ok (T.fact 96 rfl)
theorem no_Told_first (T : Tx K mg) : NoAttr K (He.ga K "Told") "first" := He.noat_ok (T.fact 97 rfl)
theorem no_Told_last (T : Tx K mg) : NoAttr K (He.ga K "Told") "last" := He.noat_ok (T.fact 98 rfl)
theorem fn_Told_D_initD_ (T : Tx K mg) : ∃ fd, FunD K "__init__" "Told.__init__" (defArgs s_Told_D_initD_) (defBody s_Told_D_initD_) (defScope s_Told_D_initD_) [] [] (He.ma K (He.ga K "Told") "__init__") fd := T.fnD 77 rfl
theorem cl_Train (T : Tx K mg) : Cls K (He.ga K "Train") := He.cls_ok (T.fact 100 rfl)
theorem mk_Train (T : Tx K mg) : Mk K (He.ga K "Train") (He.ma K (He.ga K "Train") "__init__") := He.mkr_ok (T.fact 101 rfl)
theorem mg_Train (T : Tx K mg) : mg "Train" = some (.ref (He.ga K "Train")) := T.glo 99 rfl
theorem hm_Train (T : Tx K mg) : ∃ f, mg "Train" = some (.ref f) ∧ PySem.W.keepIn K (.ref f) = true := ⟨_, T.mg_Train, T.mk_Train.kp⟩
theorem gl_Train (T : Tx K mg) : ∃ u, mg "Train" = some u ∧ RelV (.ref (He.ga K "Train")) u := ⟨_, T.mg_Train, rfl⟩
theorem no_Train_first (T : Tx K mg) : NoAttr K (He.ga K "Train") "first" := He.noat_ok (T.fact 102 rfl)
theorem no_Train_head (T : Tx K mg) : NoAttr K (He.ga K "Train") "head" := He.noat_ok (T.fact 103 rfl)
theorem no_Train_block (T : Tx K mg) : NoAttr K (He.ga K "Train") "block" := He.noat_ok (T.fact 104 rfl)
theorem no_Train_rounds (T : Tx K mg) : NoAttr K (He.ga K "Train") "rounds" := He.noat_ok (T.fact 105 rfl)
theorem no_Train_end (T : Tx K mg) : NoAttr K (He.ga K "Train") "end" := He.noat_ok (T.fact 106 rfl)
theorem fn_Train_D_initD_ (T : Tx K mg) : ∃ fd, FunD K "__init__" "Train.__init__" (defArgs s_Train_D_initD_) (defBody s_Train_D_initD_) (defScope s_Train_D_initD_) [] [] (He.ma K (He.ga K "Train") "__init__") fd := T.fnD 78 rfl
theorem cl_Ruler (T : Tx K mg) : Cls K (He.ga K "Ruler") := He.cls_ok (T.fact 108 rfl)
theorem mk_Ruler (T : Tx K mg) : Mk K (He.ga K "Ruler") (He.ma K (He.ga K "Ruler") "__init__") := He.mkr_ok (T.fact 109 rfl)
theorem mg_Ruler (T : Tx K mg) : mg "Ruler" = some (.ref (He.ga K "Ruler")) := T.glo 107 rfl
theorem hm_Ruler (T : Tx K mg) : ∃ f, mg "Ruler" = some (.ref f) ∧ PySem.W.keepIn K (.ref f) = true := ⟨_, T.mg_Ruler, T.mk_Ruler.kp⟩
theorem gl_Ruler (T : Tx K mg) : ∃ u, mg "Ruler" = some u ∧ RelV (.ref (He.ga K "Ruler")) u := ⟨_, T.mg_Ruler, rfl⟩
theorem no_Ruler_first (T : Tx K mg) : NoAttr K (He.ga K "Ruler") "first" := He.noat_ok (T.fact 110 rfl)
theorem no_Ruler_head (T : Tx K mg) : NoAttr K (He.ga K "Ruler") "head" := He.noat_ok (T.fact 111 rfl)
theorem no_Ruler_block (T : Tx K mg) : NoAttr K (He.ga K "Ruler") "block" := He.noat_ok (T.fact 112 rfl)
theorem no_Ruler_end (T : Tx K mg) : NoAttr K (He.ga K "Ruler") "end" := He.noat_ok (T.fact 113 rfl)
theorem no_Ruler_size (T : Tx K mg) : NoAttr K (He.ga K "Ruler") "size" := He.noat_ok (T.fact 114 rfl)
theorem no_Ruler_before (T : Tx K mg) : NoAttr K (He.ga K "Ruler") "before" := He.noat_ok (T.fact 115 rfl)
theorem no_Ruler_behind (T : Tx K mg) : NoAttr K (He.ga K "Ruler") "behind" := He.noat_ok (T.fact 116 rfl)
theorem no_Ruler_long (T : Tx K mg) : NoAttr K (He.ga K "Ruler") "long" := He.noat_ok (T.fact 117 rfl)
theorem fn_Ruler_D_initD_ (T : Tx K mg) : ∃ fd, FunD K "__init__" "Ruler.__init__" (defArgs s_Ruler_D_initD_) (defBody s_Ruler_D_initD_) (defScope s_Ruler_D_initD_) [] [] (He.ma K (He.ga K "Ruler") "__init__") fd := T.fnD 79 rfl
theorem fn_Ruler_event_count (T : Tx K mg) : ∃ fd, FunD K "event_count" "Ruler.event_count" (defArgs s_Ruler_event_count) (defBody s_Ruler_event_count) (defScope s_Ruler_event_count) [] [] (He.ma K (He.ga K "Ruler") "event_count") fd := T.fnD 80 rfl
theorem me_Ruler_event_count (T : Tx K mg) : Meth K (He.ga K "Ruler") "event_count" (He.ma K (He.ga K "Ruler") "event_count") := He.meth_ok (T.fact 118 rfl)
theorem fn_Ruler_time_of (T : Tx K mg) : ∃ fd, FunD K "time_of" "Ruler.time_of" (defArgs s_Ruler_time_of) (defBody s_Ruler_time_of) (defScope s_Ruler_time_of) [] [] (He.ma K (He.ga K "Ruler") "time_of") fd := T.fnD 81 rfl
theorem me_Ruler_time_of (T : Tx K mg) : Meth K (He.ga K "Ruler") "time_of" (He.ma K (He.ga K "Ruler") "time_of") := He.meth_ok (T.fact 119 rfl)
theorem cl_Cut (T : Tx K mg) : Cls K (He.ga K "Cut") := He.cls_ok (T.fact 121 rfl)
theorem mk_Cut (T : Tx K mg) : Mk K (He.ga K "Cut") (He.ma K (He.ga K "Cut") "__init__") := He.mkr_ok (T.fact 122 rfl)
theorem mg_Cut (T : Tx K mg) : mg "Cut" = some (.ref (He.ga K "Cut")) := T.glo 120 rfl
theorem hm_Cut (T : Tx K mg) : ∃ f, mg "Cut" = some (.ref f) ∧ PySem.W.keepIn K (.ref f) = true := ⟨_, T.mg_Cut, T.mk_Cut.kp⟩
theorem gl_Cut (T : Tx K mg) : ∃ u, mg "Cut" = some u ∧ RelV (.ref (He.ga K "Cut")) u := ⟨_, T.mg_Cut, rfl⟩
theorem no_Cut_ahead (T : Tx K mg) : NoAttr K (He.ga K "Cut") "ahead" := He.noat_ok (T.fact 123 rfl)
theorem no_Cut_row (T : Tx K mg) : NoAttr K (He.ga K "Cut") "row" := He.noat_ok (T.fact 124 rfl)
theorem no_Cut_rounds (T : Tx K mg) : NoAttr K (He.ga K "Cut") "rounds" := He.noat_ok (T.fact 125 rfl)
theorem no_Cut_rest (T : Tx K mg) : NoAttr K (He.ga K "Cut") "rest" := He.noat_ok (T.fact 126 rfl)
theorem fn_Cut_D_initD_ (T : Tx K mg) : ∃ fd, FunD K "__init__" "Cut.__init__" (defArgs s_Cut_D_initD_) (defBody s_Cut_D_initD_) (defScope s_Cut_D_initD_) [] [] (He.ma K (He.ga K "Cut") "__init__") fd := T.fnD 82 rfl
theorem cl_Normal (T : Tx K mg) : Cls K (He.ga K "Normal") := He.cls_ok (T.fact 128 rfl)
theorem mk_Normal (T : Tx K mg) : Mk K (He.ga K "Normal") (He.ma K (He.ga K "Normal") "__init__") := He.mkr_ok (T.fact 129 rfl)
theorem mg_Normal (T : Tx K mg) : mg "Normal" = some (.ref (He.ga K "Normal")) := T.glo 127 rfl
theorem hm_Normal (T : Tx K mg) : ∃ f, mg "Normal" = some (.ref f) ∧ PySem.W.keepIn K (.ref f) = true := ⟨_, T.mg_Normal, T.mk_Normal.kp⟩
theorem gl_Normal (T : Tx K mg) : ∃ u, mg "Normal" = some u ∧ RelV (.ref (He.ga K "Normal")) u := ⟨_, T.mg_Normal, rfl⟩
theorem no_Normal_records (T : Tx K mg) : NoAttr K (He.ga K "Normal") "records" := He.noat_ok (T.fact 130 rfl)
theorem no_Normal_delay (T : Tx K mg) : NoAttr K (He.ga K "Normal") "delay" := He.noat_ok (T.fact 131 rfl)
theorem fn_Normal_D_initD_ (T : Tx K mg) : ∃ fd, FunD K "__init__" "Normal.__init__" (defArgs s_Normal_D_initD_) (defBody s_Normal_D_initD_) (defScope s_Normal_D_initD_) [] [] (He.ma K (He.ga K "Normal") "__init__") fd := T.fnD 83 rfl
theorem fn_Normal_class_name (T : Tx K mg) : ∃ fd, FunD K "class_name" "Normal.class_name" (defArgs s_Normal_class_name) (defBody s_Normal_class_name) (defScope s_Normal_class_name) [] [] (He.ma K (He.ga K "Normal") "class_name") fd := T.fnD 84 rfl
theorem me_Normal_class_name (T : Tx K mg) : Meth K (He.ga K "Normal") "class_name" (He.ma K (He.ga K "Normal") "class_name") := He.meth_ok (T.fact 132 rfl)
theorem fn_Normal_facts (T : Tx K mg) : ∃ fd, FunD K "facts" "Normal.facts" (defArgs s_Normal_facts) (defBody s_Normal_facts) (defScope s_Normal_facts) [] [] (He.ma K (He.ga K "Normal") "facts") fd := T.fnD 85 rfl
theorem me_Normal_facts (T : Tx K mg) : Meth K (He.ga K "Normal") "facts" (He.ma K (He.ga K "Normal") "facts") := He.meth_ok (T.fact 133 rfl)
theorem fn_Normal_D_eqD_ (T : Tx K mg) : ∃ fd, FunD K "__eq__" "Thing.__eq__" (defArgs s_Thing_D_eqD_) (defBody s_Thing_D_eqD_) (defScope s_Thing_D_eqD_) [] [] (He.ma K (He.ga K "Normal") "__eq__") fd := T.fnD 86 rfl
theorem me_Normal_D_eqD_ (T : Tx K mg) : Meth K (He.ga K "Normal") "__eq__" (He.ma K (He.ga K "Normal") "__eq__") := He.meth_ok (T.fact 134 rfl)
theorem cl_Leads (T : Tx K mg) : Cls K (He.ga K "Leads") := He.cls_ok (T.fact 136 rfl)
theorem mk_Leads (T : Tx K mg) : Mk K (He.ga K "Leads") (He.ma K (He.ga K "Leads") "__init__") := He.mkr_ok (T.fact 137 rfl)
theorem mg_Leads (T : Tx K mg) : mg "Leads" = some (.ref (He.ga K "Leads")) := T.glo 135 rfl
theorem hm_Leads (T : Tx K mg) : ∃ f, mg "Leads" = some (.ref f) ∧ PySem.W.keepIn K (.ref f) = true := ⟨_, T.mg_Leads, T.mk_Leads.kp⟩
theorem gl_Leads (T : Tx K mg) : ∃ u, mg "Leads" = some u ∧ RelV (.ref (He.ga K "Leads")) u := ⟨_, T.mg_Leads, rfl⟩
theorem no_Leads_stream (T : Tx K mg) : NoAttr K (He.ga K "Leads") "stream" := He.noat_ok (T.fact 138 rfl)
theorem no_Leads_goal (T : Tx K mg) : NoAttr K (He.ga K "Leads") "goal" := He.noat_ok (T.fact 139 rfl)
theorem no_Leads_stretches (T : Tx K mg) : NoAttr K (He.ga K "Leads") "stretches" := He.noat_ok (T.fact 140 rfl)
theorem no_Leads_fewest (T : Tx K mg) : NoAttr K (He.ga K "Leads") "fewest" := He.noat_ok (T.fact 141 rfl)
theorem fn_Leads_D_initD_ (T : Tx K mg) : ∃ fd, FunD K "__init__" "Leads.__init__" (defArgs s_Leads_D_initD_) (defBody s_Leads_D_initD_) (defScope s_Leads_D_initD_) [] [] (He.ma K (He.ga K "Leads") "__init__") fd := T.fnD 87 rfl
theorem fn_Leads_left (T : Tx K mg) : ∃ fd, FunD K "left" "Leads.left" (defArgs s_Leads_left) (defBody s_Leads_left) (defScope s_Leads_left) [] [] (He.ma K (He.ga K "Leads") "left") fd := T.fnD 88 rfl
theorem me_Leads_left (T : Tx K mg) : Meth K (He.ga K "Leads") "left" (He.ma K (He.ga K "Leads") "left") := He.meth_ok (T.fact 142 rfl)
theorem fn_Leads_is_open (T : Tx K mg) : ∃ fd, FunD K "is_open" "Leads.is_open" (defArgs s_Leads_is_open) (defBody s_Leads_is_open) (defScope s_Leads_is_open) [] [] (He.ma K (He.ga K "Leads") "is_open") fd := T.fnD 89 rfl
theorem me_Leads_is_open (T : Tx K mg) : Meth K (He.ga K "Leads") "is_open" (He.ma K (He.ga K "Leads") "is_open") := He.meth_ok (T.fact 143 rfl)
theorem fn_Leads_ways_to_goal (T : Tx K mg) : ∃ fd, FunD K "ways_to_goal" "Leads.ways_to_goal" (defArgs s_Leads_ways_to_goal) (defBody s_Leads_ways_to_goal) (defScope s_Leads_ways_to_goal) [] [] (He.ma K (He.ga K "Leads") "ways_to_goal") fd := T.fnD 90 rfl
theorem me_Leads_ways_to_goal (T : Tx K mg) : Meth K (He.ga K "Leads") "ways_to_goal" (He.ma K (He.ga K "Leads") "ways_to_goal") := He.meth_ok (T.fact 144 rfl)
theorem cl_Ways (T : Tx K mg) : Cls K (He.ga K "Ways") := He.cls_ok (T.fact 146 rfl)
theorem mk_Ways (T : Tx K mg) : Mk K (He.ga K "Ways") (He.ma K (He.ga K "Ways") "__init__") := He.mkr_ok (T.fact 147 rfl)
theorem mg_Ways (T : Tx K mg) : mg "Ways" = some (.ref (He.ga K "Ways")) := T.glo 145 rfl
theorem hm_Ways (T : Tx K mg) : ∃ f, mg "Ways" = some (.ref f) ∧ PySem.W.keepIn K (.ref f) = true := ⟨_, T.mg_Ways, T.mk_Ways.kp⟩
theorem gl_Ways (T : Tx K mg) : ∃ u, mg "Ways" = some u ∧ RelV (.ref (He.ga K "Ways")) u := ⟨_, T.mg_Ways, rfl⟩
theorem no_Ways_size (T : Tx K mg) : NoAttr K (He.ga K "Ways") "size" := He.noat_ok (T.fact 148 rfl)
theorem no_Ways_steps (T : Tx K mg) : NoAttr K (He.ga K "Ways") "steps" := He.noat_ok (T.fact 149 rfl)
theorem no_Ways_heads (T : Tx K mg) : NoAttr K (He.ga K "Ways") "heads" := He.noat_ok (T.fact 150 rfl)
theorem no_Ways_tails (T : Tx K mg) : NoAttr K (He.ga K "Ways") "tails" := He.noat_ok (T.fact 151 rfl)
theorem fn_Ways_D_initD_ (T : Tx K mg) : ∃ fd, FunD K "__init__" "Ways.__init__" (defArgs s_Ways_D_initD_) (defBody s_Ways_D_initD_) (defScope s_Ways_D_initD_) [] [] (He.ma K (He.ga K "Ways") "__init__") fd := T.fnD 91 rfl
theorem fn_Ways_chains (T : Tx K mg) : ∃ fd, FunD K "chains" "Ways.chains" (defArgs s_Ways_chains) (defBody s_Ways_chains) (defScope s_Ways_chains) [] [] (He.ma K (He.ga K "Ways") "chains") fd := T.fnD 92 rfl
theorem me_Ways_chains (T : Tx K mg) : Meth K (He.ga K "Ways") "chains" (He.ma K (He.ga K "Ways") "chains") := He.meth_ok (T.fact 152 rfl)
theorem fn_Ways_add (T : Tx K mg) : ∃ fd, FunD K "add" "Ways.add" (defArgs s_Ways_add) (defBody s_Ways_add) (defScope s_Ways_add) [] [] (He.ma K (He.ga K "Ways") "add") fd := T.fnD 93 rfl
theorem me_Ways_add (T : Tx K mg) : Meth K (He.ga K "Ways") "add" (He.ma K (He.ga K "Ways") "add") := He.meth_ok (T.fact 153 rfl)
end Tx
end Qr

set_option maxHeartbeats 0
namespace Qr
open PySem L2
/-! ### the head: the top's run, seen in pieces -/
section
open PySem.W
abbrev RR : OpenRow := OpenLaw.row PySem.Challenge.rw_quietrows_k90_whole_time_turned_round
noncomputable def endR (w : World) (os : OsState) : Option SharedT := HandSHeadRun.endF (HandSHeadRun.stepQ (HandSHeadRun.denQ HandSHeadRun.tabQ) RR.prog w) 20000 RR.prog w os
abbrev qv : Program := view RR.prog [109]
abbrev loose : List Str := RR.prog.main.scope.names.filterMap fun p => if p.1 = ("law" : Str) then none else some p.1
def kOf (s : SharedT) : Frag := He.frG (HandSHeadRun.getT s) (asN (HandSHeadRun.getT s) nN)
noncomputable def seen0 (w : World) (s : SharedT) := (HandSHeadRun.looksF RR.prog (boot_heap w.params) s.abs, HandSHeadRun.seenQ qv loose (importedModules RR.prog.main.body) (fun s => xlAt qv [] s && recOk RR.toRowW.records s) s.abs)
theorem h_seen (w : World) (os : OsState) : (endR w os).map (fun s => (seen0 w s, exB (kOf s))) = some ((true, openGood qv loose), true) := by kernel_rfl
theorem h_fac (w : World) (os : OsState) : (endR w os).map (fun s => match kOf s with | K => fa.all fun f => f.ok K) = some true := by kernel_rfl
theorem h_def1 (w : World) (os : OsState) : (endR w os).map (fun s => match kOf s with | K => (fn.take 47).all fun d => d.ok K) = some true := by kernel_rfl
theorem h_def2 (w : World) (os : OsState) : (endR w os).map (fun s => match kOf s with | K => (fn.drop 47).all fun d => d.ok K) = some true := by kernel_rfl
theorem h_val (w : World) (os : OsState) : (endR w os).map (fun s => match kOf s with | K => fn.map fun d => He.fnW K d.at_) = some (fn.map He.DefD.val) := by kernel_rfl
theorem some_of {α β : Type} {o : Option α} {f : α → β} {b : β} (h : o.map f = some b) : ∃ s, o = some s ∧ f s = b := by
  cases o with
  | none => cases h
  | some s => exact ⟨s, rfl, Option.some.inj h⟩
theorem at_of {α β : Type} {o : Option α} {s : α} {f : α → β} {b : β} (e : o = some s) (h : o.map f = some b) : f s = b := by
  subst e
  exact Option.some.inj h
theorem map_of {α β : Type} {o : Option α} {s : α} {f : α → β} {b : β} (e : o = some s) (h : f s = b) : o.map f = some b := by
  subst e; subst h
  rfl
theorem run (w : World) : HandSHeadRun.RunEq RR qv hk ob 20000 loose w := by
  intro os
  obtain ⟨s, e, h1⟩ := some_of (h_seen w os)
  have h2 := at_of e (h_fac w os)
  have h3 := at_of e (h_def1 w os)
  have h4 := at_of e (h_def2 w os)
  have h5 := at_of e (h_val w os)
  refine map_of (o := endR w os) e ?_
  have h2 : (fa.all fun f => f.ok (kOf s)) = true := h2
  have h3 : ((fn.take 47).all fun d => d.ok (kOf s)) = true := h3
  have h4 : ((fn.drop 47).all fun d => d.ok (kOf s)) = true := h4
  have h5 : (fn.map fun d => He.fnW (kOf s) d.at_) = fn.map He.DefD.val := h5
  have h6 : (fn.all fun d => d.ok (kOf s)) = true := by
    rw [← List.take_append_drop 47 fn, List.all_append, h3, h4]; rfl
  have h7 : exB (kOf s) = true := congrArg Prod.snd h1
  have e0 : ob s = (true, fn.map He.DefD.val) := by
    show obsN (kOf s) = _
    unfold obsN
    rw [h2, h6, h5, h7]; rfl
  have e1 : seen0 w s = (true, openGood qv loose) := congrArg Prod.fst h1
  have e2 : HandSHeadRun.looksF RR.prog (boot_heap w.params) s.abs = true := congrArg Prod.fst e1
  have e3 : HandSHeadRun.seenQ qv loose (importedModules RR.prog.main.body) (fun s => xlAt qv [] s && recOk RR.toRowW.records s) s.abs = openGood qv loose := congrArg Prod.snd e1
  exact Prod.ext e2 (Prod.ext e3 e0)
end
end Qr

set_option maxHeartbeats 2000000

/-! #### Qa -/
set_option maxHeartbeats 2000000
/-! Values without a heap: what a reading evaluates to, by data (D), a store of slots (Sl) and a few owned objects (Mem). -/
namespace Qr
open PySem L2

/-- data; loc a: the owned object at a; any: untold -/
inductive D where
  | non | bl (b : Bool) | int (i : Int) | str (s : Str)
  | lst (xs : List D) | seq (xs : List D) | tup (xs : List D)
  | ins (C : Addr) (fs : List (Str × D))
  | loc (a : Addr) | ty (n : String) | any

def Ex (H H' : Hp) : Prop := ∀ a o, H a = some o → H' a = some o
theorem Ex.refl (H : Hp) : Ex H H := fun _ _ h => h
theorem Ex.trans {H H1 H2 : Hp} (a : Ex H H1) (b : Ex H1 H2) : Ex H H2 := fun x o h => b x o (a x o h)
theorem Ex.new {H : Hp} {p : Addr} {o : HO} (h : H p = none) : Ex H (upd H p o) := fun a u e => by
  rw [upd_ne (ne_of_none e h)]
  exact e
theorem Ex.mut {H H' : Hp} {p : Addr} {o : HO} (e : Ex H H') (h : H p = none) : Ex H (upd H' p o) := fun a u ha => by
  rw [upd_ne (ne_of_none ha h)]
  exact e a u ha
theorem Ex.back {H H' : Hp} {p : Addr} (e : Ex H H') (h : H' p = none) : H p = none := by
  cases h1 : H p with
  | none => rfl
  | some o =>
    rw [e p o h1] at h
    cases h
theorem ex_rd {H H' : Hp} {a : Addr} {u : HO} (e : Ex H H') (h : Rd H a u) : Rd H' a u := by
  rcases h with h | ⟨o, h⟩
  · exact Or.inl (e a _ h)
  · exact Or.inr ⟨o, e a _ h⟩
theorem ex_l {K : PySem.W.Frag} {H H' : Hp} {a : Addr} {xs : List V} (e : Ex H H') (h : SqL K H a xs) : SqL K H' a xs := by
  rcases h with h | h
  · exact Or.inl (ex_rd e h)
  · exact Or.inr h
theorem ex_t {K : PySem.W.Frag} {H H' : Hp} {a : Addr} {xs : List V} (e : Ex H H') (h : SqT K H a xs) : SqT K H' a xs := by
  rcases h with h | h
  · exact Or.inl (ex_rd e h)
  · exact Or.inr h

mutual
inductive Rep (K : PySem.W.Frag) (H : Hp) : V → D → Prop
  | non : Rep K H .non .non
  | bl (b : Bool) : Rep K H (.bl b) (.bl b)
  | int (i : Int) : Rep K H (.int i) (.int i)
  | str (s : Str) : Rep K H (.str s) (.str s)
  | lst {a : Addr} {vs : List V} {ds : List D} (h : H a = some (.lst vs)) (r : Reps K H vs ds) : Rep K H (.ref a) (.lst ds)
  | seq {a : Addr} {vs : List V} {ds : List D} (h : SqL K H a vs) (r : Reps K H vs ds) : Rep K H (.ref a) (.seq ds)
  | tup {a : Addr} {vs : List V} {ds : List D} (h : H a = some (.tup vs)) (r : Reps K H vs ds) : Rep K H (.ref a) (.tup ds)
  | ins {a C dx : Addr} {vs : List (Str × V)} {fs : List (Str × D)} (h : H a = some (.ins C dx vs)) (r : RepF K H vs fs) : Rep K H (.ref a) (.ins C fs)
  | loc (a : Addr) : Rep K H (.ref a) (.loc a)
  | ty (n : String) : Rep K H (.ty n) (.ty n)
  | any (v : V) : Rep K H v .any
inductive Reps (K : PySem.W.Frag) (H : Hp) : List V → List D → Prop
  | nil : Reps K H [] []
  | cons {v : V} {d : D} {vs : List V} {ds : List D} (r : Rep K H v d) (t : Reps K H vs ds) : Reps K H (v :: vs) (d :: ds)
inductive RepF (K : PySem.W.Frag) (H : Hp) : List (Str × V) → List (Str × D) → Prop
  | nil : RepF K H [] []
  | cons {f : Str} {v : V} {d : D} {vs : List (Str × V)} {ds : List (Str × D)} (r : Rep K H v d) (t : RepF K H vs ds) : RepF K H ((f, v) :: vs) ((f, d) :: ds)
end

section
variable {K : PySem.W.Frag} {H H' : Hp}
mutual
theorem Rep.mono (e : Ex H H') : ∀ {v : V} {d : D}, Rep K H v d → Rep K H' v d
  | _, _, .non => .non
  | _, _, .bl b => .bl b
  | _, _, .int b => .int b
  | _, _, .str b => .str b
  | _, _, .lst h r => .lst (e _ _ h) (Reps.mono e r)
  | _, _, .seq h r => .seq (ex_l e h) (Reps.mono e r)
  | _, _, .tup h r => .tup (e _ _ h) (Reps.mono e r)
  | _, _, .ins h r => .ins (e _ _ h) (RepF.mono e r)
  | _, _, .loc a => .loc a
  | _, _, .ty n => .ty n
  | _, _, .any v => .any v
theorem Reps.mono (e : Ex H H') : ∀ {vs : List V} {ds : List D}, Reps K H vs ds → Reps K H' vs ds
  | _, _, .nil => .nil
  | _, _, .cons r t => .cons (Rep.mono e r) (Reps.mono e t)
theorem RepF.mono (e : Ex H H') : ∀ {vs : List (Str × V)} {ds : List (Str × D)}, RepF K H vs ds → RepF K H' vs ds
  | _, _, .nil => .nil
  | _, _, .cons r t => .cons (Rep.mono e r) (RepF.mono e t)
end
theorem Reps.length : ∀ {vs : List V} {ds : List D}, Reps K H vs ds → vs.length = ds.length
  | _, _, .nil => rfl
  | _, _, .cons _ t => by rw [List.length_cons, List.length_cons, Reps.length t]
theorem Reps.get : ∀ {vs : List V} {ds : List D} {i : Nat} {d : D}, Reps K H vs ds → ds[i]? = some d → ∃ v, vs[i]? = some v ∧ Rep K H v d
  | _, _, _, _, .nil, e => by simp at e
  | _, _, 0, _, .cons r _, e => by simp at e; subst e; exact ⟨_, rfl, r⟩
  | _, _, i + 1, _, .cons _ t, e => by
    obtain ⟨v, h1, h2⟩ := Reps.get (i := i) t (by simpa using e)
    exact ⟨v, by simpa using h1, h2⟩
theorem Reps.get' : ∀ {vs : List V} {ds : List D} {i : Nat} {v : V}, Reps K H vs ds → vs[i]? = some v → ∃ d, ds[i]? = some d ∧ Rep K H v d
  | _, _, _, _, .nil, e => by simp at e
  | _, _, 0, _, .cons r _, e => by simp at e; subst e; exact ⟨_, rfl, r⟩
  | _, _, i + 1, _, .cons _ t, e => by
    obtain ⟨v, h1, h2⟩ := Reps.get' (i := i) t (by simpa using e)
    exact ⟨v, by simpa using h1, h2⟩
theorem Reps.set {v : V} {d : D} (r : Rep K H v d) : ∀ {vs : List V} {ds : List D} (i : Nat), Reps K H vs ds → Reps K H (vs.set i v) (ds.set i d)
  | _, _, _, .nil => .nil
  | _, _, 0, .cons _ t => .cons r t
  | _, _, i + 1, .cons q t => .cons q (Reps.set r i t)
theorem Reps.append : ∀ {vs ws : List V} {ds es : List D}, Reps K H vs ds → Reps K H ws es → Reps K H (vs ++ ws) (ds ++ es)
  | _, _, _, _, .nil, s => s
  | _, _, _, _, .cons r t, s => .cons r (Reps.append t s)
theorem Reps.take : ∀ {vs : List V} {ds : List D} (n : Nat), Reps K H vs ds → Reps K H (vs.take n) (ds.take n)
  | _, _, 0, _ => .nil
  | _, _, _ + 1, .nil => .nil
  | _, _, n + 1, .cons r t => .cons r (Reps.take n t)
theorem Reps.drop : ∀ {vs : List V} {ds : List D} (n : Nat), Reps K H vs ds → Reps K H (vs.drop n) (ds.drop n)
  | _, _, 0, r => r
  | _, _, _ + 1, .nil => .nil
  | _, _, n + 1, .cons _ t => Reps.drop n t
theorem Reps.one {v : V} {d : D} (r : Rep K H v d) : Reps K H [v] [d] := .cons r .nil
theorem Reps.reverse : ∀ {vs : List V} {ds : List D}, Reps K H vs ds → Reps K H vs.reverse ds.reverse
  | _, _, .nil => .nil
  | _, _, .cons r t => by rw [List.reverse_cons, List.reverse_cons]; exact (Reps.reverse t).append (.one r)
theorem Reps.rep {vs : List V} {ds : List D} (h : Reps K H vs ds) : ∀ k : Nat, Reps K H (List.replicate k vs).flatten (List.replicate k ds).flatten
  | 0 => .nil
  | k + 1 => by rw [List.replicate_succ, List.replicate_succ, List.flatten_cons, List.flatten_cons]; exact h.append (Reps.rep h k)
theorem Reps.ints : ∀ {vs : List V} {ns : List Int}, Reps K H vs (ns.map D.int) → vs = ns.map V.int
  | [], [], _ => rfl
  | _ :: _, [], h => by cases h
  | [], _ :: _, h => by cases h
  | _ :: _, _ :: _, h => by
    cases h with
    | cons r t => cases r; rw [List.map_cons, Reps.ints t]
theorem reps_ints : ∀ (ns : List Int), Reps K H (ns.map V.int) (ns.map D.int)
  | [] => .nil
  | _ :: ns => .cons (.int _) (reps_ints ns)
theorem Reps.bls : ∀ {vs : List V} {ns : List Bool}, Reps K H vs (ns.map D.bl) → vs = ns.map V.bl
  | [], [], _ => rfl
  | _ :: _, [], h => by cases h
  | [], _ :: _, h => by cases h
  | _ :: _, _ :: _, h => by
    cases h with
    | cons r t => cases r; rw [List.map_cons, Reps.bls t]
theorem RepF.lookup : ∀ {vs : List (Str × V)} {ds : List (Str × D)} {f : Str} {d : D}, RepF K H vs ds → ds.lookup f = some d → ∃ v, vs.lookup f = some v ∧ Rep K H v d
  | _, _, _, _, .nil, e => by cases e
  | (g, v) :: vs, (_, x) :: ds, f, d, .cons r t, e => by
    by_cases h : f = g
    · have hb : (f == g) = true := beq_iff_eq.mpr h
      simp only [List.lookup, hb] at e ⊢
      cases e
      exact ⟨v, rfl, r⟩
    · have hb : (f == g) = false := beq_eq_false_iff_ne.mpr h
      simp only [List.lookup, hb] at e ⊢
      exact RepF.lookup t e
theorem RepF.lookup_none : ∀ {vs : List (Str × V)} {ds : List (Str × D)} {f : Str}, RepF K H vs ds → ds.lookup f = none → vs.lookup f = none
  | _, _, _, .nil, _ => rfl
  | (g, v) :: vs, (_, x) :: ds, f, .cons r t, e => by
    by_cases h : f = g
    · have hb : (f == g) = true := beq_iff_eq.mpr h
      simp only [List.lookup, hb] at e
      cases e
    · have hb : (f == g) = false := beq_eq_false_iff_ne.mpr h
      simp only [List.lookup, hb] at e ⊢
      exact RepF.lookup_none t e
theorem RepF.length : ∀ {vs : List (Str × V)} {ds : List (Str × D)}, RepF K H vs ds → vs.length = ds.length
  | _, _, .nil => rfl
  | _, _, .cons _ t => by rw [List.length_cons, List.length_cons, RepF.length t]
/-- a field stored -/
def putD (f : Str) (d : D) : List (Str × D) → List (Str × D)
  | [] => [(f, d)]
  | (g, x) :: r => if g = f then (g, d) :: r else (g, x) :: putD f d r
theorem RepF.put {f : Str} {v : V} {d : D} (r : Rep K H v d) : ∀ {vs : List (Str × V)} {ds : List (Str × D)}, RepF K H vs ds → RepF K H (putF f v vs) (putD f d ds)
  | _, _, .nil => .cons r .nil
  | (g, _) :: _, (_, _) :: _, .cons q t => by
    show RepF K H (if g = f then _ else _) (if g = f then _ else _)
    by_cases h : g = f
    · rw [if_pos h, if_pos h]; exact .cons r t
    · rw [if_neg h, if_neg h]; exact .cons q (RepF.put r t)
end

/-- an owned object's content -/
inductive DO where
  | lst (ds : List D) | dK (kvs : List (Key × D)) | dT (kvs : List (List Key × D)) | ins (C : Addr) (fs : List (Str × D))
abbrev Mem := List (Addr × DO)
/-- keys with values -/
inductive RepK {κ : Type} (K : PySem.W.Frag) (H : Hp) : List (κ × V) → List (κ × D) → Prop
  | nil : RepK K H [] []
  | cons {f : κ} {v : V} {d : D} {vs : List (κ × V)} {ds : List (κ × D)} (r : Rep K H v d) (t : RepK K H vs ds) : RepK K H ((f, v) :: vs) ((f, d) :: ds)
theorem RepK.mono {κ : Type} {K : PySem.W.Frag} {H H' : Hp} (e : Ex H H') : ∀ {vs : List (κ × V)} {ds : List (κ × D)}, RepK K H vs ds → RepK K H' vs ds
  | _, _, .nil => .nil
  | _, _, .cons r t => .cons (r.mono e) (RepK.mono e t)
theorem RepK.length {κ : Type} {K : PySem.W.Frag} {H : Hp} : ∀ {vs : List (κ × V)} {ds : List (κ × D)}, RepK K H vs ds → vs.length = ds.length
  | _, _, .nil => rfl
  | _, _, .cons _ t => by rw [List.length_cons, List.length_cons, RepK.length t]
inductive RepO (K : PySem.W.Frag) (H : Hp) : HO → DO → Prop
  | lst {vs : List V} {ds : List D} (r : Reps K H vs ds) : RepO K H (.lst vs) (.lst ds)
  | dK {vs : List (Key × V)} {ds : List (Key × D)} (r : RepK K H vs ds) : RepO K H (.dK vs) (.dK ds)
  | dT {vs : List (List Key × V)} {ds : List (List Key × D)} (r : RepK K H vs ds) : RepO K H (.dT vs) (.dT ds)
  | ins {C dx : Addr} {vs : List (Str × V)} {fs : List (Str × D)} (r : RepF K H vs fs) : RepO K H (.ins C dx vs) (.ins C fs)
theorem RepO.mono {K : PySem.W.Frag} {H H' : Hp} (e : Ex H H') {u : HO} {o : DO} (h : RepO K H u o) : RepO K H' u o := by
  cases h with
  | lst r => exact .lst (r.mono e)
  | dK r => exact .dK (r.mono e)
  | dT r => exact .dT (r.mono e)
  | ins r => exact .ins (r.mono e)

/-- where one stands: F0, H0 the frozen part and the frame at the entry; F the frozen part, M the owned objects, H the heap -/
structure Wok (K : PySem.W.Frag) (F0 H0 F : Hp) (M : Mem) (H : Hp) : Prop where
  ex : Ex F H
  e0 : Ex F0 F
  e1 : Ex H0 H
  nw : ∀ a o, F a = some o → F0 a = some o ∨ H0 a = none ∨ ∃ vs, o = .tup vs ∧ H0 a = some o
  own : ∀ p ∈ M, H0 p.1 = none ∧ F p.1 = none ∧ ∃ u, H p.1 = some u ∧ RepO K F u p.2
  nd : (M.map (·.1)).Nodup

section
variable {K : PySem.W.Frag} {F0 H0 F F' H H' : Hp} {M M' : Mem} {a p : Addr} {u : HO} {o : DO}
theorem Wok.ne (W : Wok K F0 H0 F M H) (h : H p = none) : ∀ q ∈ M, q.1 ≠ p := fun q hq e => by
  obtain ⟨_, _, u, hu, _⟩ := W.own q hq
  rw [e, h] at hu
  cases hu
/-- a new object, frozen from its beginning -/
theorem Wok.new (W : Wok K F0 H0 F M H) (h : H p = none) (u : HO) : Wok K F0 H0 (upd F p u) M (upd H p u) ∧ Ex F (upd F p u) := by
  have hf : F p = none := W.ex.back h
  have h0 : H0 p = none := W.e1.back h
  refine ⟨⟨fun a o e => ?_, W.e0.trans (Ex.new hf), W.e1.trans (Ex.new h), fun a o e => ?_, fun q hq => ?_, W.nd⟩, Ex.new hf⟩
  · by_cases ha : a = p
    · subst ha; rw [upd_same] at e ⊢; exact e
    · rw [upd_ne ha] at e ⊢; exact W.ex a o e
  · by_cases ha : a = p
    · subst ha; exact .inr (.inl h0)
    · rw [upd_ne ha] at e; exact W.nw a o e
  · have ne := W.ne h q hq
    obtain ⟨a1, a2, v, a3, a4⟩ := W.own q hq
    exact ⟨a1, by rw [upd_ne ne]; exact a2, v, by rw [upd_ne ne]; exact a3, a4.mono (Ex.new hf)⟩
/-- a new object, owned -/
theorem Wok.newO (W : Wok K F0 H0 F M H) (h : H p = none) (r : RepO K F u o) : Wok K F0 H0 F ((p, o) :: M) (upd H p u) := by
  have hf : F p = none := W.ex.back h
  have h0 : H0 p = none := W.e1.back h
  refine ⟨W.ex.trans (Ex.new h), W.e0, W.e1.trans (Ex.new h), W.nw, fun q hq => ?_, ?_⟩
  · rcases List.mem_cons.mp hq with e | hq
    · subst e; exact ⟨h0, hf, u, upd_same, r⟩
    · have ne := W.ne h q hq
      obtain ⟨a1, a2, v, a3, a4⟩ := W.own q hq
      exact ⟨a1, a2, v, by rw [upd_ne ne]; exact a3, a4⟩
  · rw [List.map_cons, List.nodup_cons]
    refine ⟨fun hm => ?_, W.nd⟩
    obtain ⟨q, hq, e⟩ := List.mem_map.mp hm
    exact W.ne h q hq e
/-- an owned object is changed -/
theorem Wok.write {v : HO} {o' : DO} (W : Wok K F0 H0 F ((p, o) :: M) H) (r : RepO K F v o') : Wok K F0 H0 F ((p, o') :: M) (upd H p v) := by
  obtain ⟨h0, hf, _⟩ := W.own (p, o) (List.mem_cons_self ..)
  have nd := W.nd
  rw [List.map_cons, List.nodup_cons] at nd
  refine ⟨W.ex.mut hf, W.e0, W.e1.mut h0, W.nw, fun q hq => ?_, by rw [List.map_cons, List.nodup_cons]; exact nd⟩
  rcases List.mem_cons.mp hq with e | hq
  · subst e; exact ⟨h0, hf, v, upd_same, r⟩
  · have ne : q.1 ≠ p := fun e => nd.1 (List.mem_map.mpr ⟨q, hq, e⟩)
    obtain ⟨a1, a2, w, a3, a4⟩ := W.own q (List.mem_cons_of_mem _ hq)
    exact ⟨a1, a2, w, by rw [upd_ne ne]; exact a3, a4⟩
theorem Wok.perm (W : Wok K F0 H0 F M H) (h : M.Perm M') : Wok K F0 H0 F M' H :=
  ⟨W.ex, W.e0, W.e1, W.nw, fun q hq => W.own q (h.mem_iff.mpr hq), (h.map _).nodup_iff.mp W.nd⟩
theorem Wok.sub (W : Wok K F0 H0 F (M' ++ M) H) : Wok K F0 H0 F M H :=
  ⟨W.ex, W.e0, W.e1, W.nw, fun q hq => W.own q (List.mem_append_right _ hq), by have := W.nd; rw [List.map_append] at this; exact (List.nodup_append.mp this).2.1⟩
theorem Wok.drop (W : Wok K F0 H0 F M H) : Wok K F0 H0 F [] H := ⟨W.ex, W.e0, W.e1, W.nw, fun _ h => (nomatch h), List.nodup_nil⟩
/-- an owned object is frozen -/
theorem Wok.freeze (W : Wok K F0 H0 F ((p, o) :: M) H) : ∃ u, Wok K F0 H0 (upd F p u) M H ∧ Ex F (upd F p u) ∧ RepO K (upd F p u) u o ∧ upd F p u p = some u := by
  obtain ⟨h0, hf, u, hu, r⟩ := W.own (p, o) (List.mem_cons_self ..)
  have nd := W.nd
  rw [List.map_cons, List.nodup_cons] at nd
  refine ⟨u, ⟨fun a v e => ?_, W.e0.trans (Ex.new hf), W.e1, fun a v e => ?_, fun q hq => ?_, nd.2⟩, Ex.new hf, r.mono (Ex.new hf), upd_same⟩
  · by_cases ha : a = p
    · subst ha; rw [upd_same] at e; cases e; exact hu
    · rw [upd_ne ha] at e; exact W.ex a v e
  · by_cases ha : a = p
    · subst ha; exact .inr (.inl h0)
    · rw [upd_ne ha] at e; exact W.nw a v e
  · have ne : q.1 ≠ p := fun e => nd.1 (List.mem_map.mpr ⟨q, hq, e⟩)
    obtain ⟨a1, a2, w, a3, a4⟩ := W.own q (List.mem_cons_of_mem _ hq)
    exact ⟨a1, by rw [upd_ne ne]; exact a2, w, a3, a4.mono (Ex.new hf)⟩

/-- a tuple that stands is told -/
theorem Wok.adopt {vs : List V} {ds : List D} (W : Wok K F0 H0 F M H) (h : H p = some (.tup vs)) (r : Reps K F vs ds) : ∃ F', Ex F F' ∧ Wok K F0 H0 F' M H ∧ Rep K F' (.ref p) (.tup ds) := by
  cases e : F p with
  | some o =>
    have := W.ex p o e
    rw [h] at this
    cases this
    exact ⟨F, Ex.refl F, W, .tup e r⟩
  | none =>
    refine ⟨upd F p (.tup vs), Ex.new e, ⟨fun a o q => ?_, W.e0.trans (Ex.new e), W.e1, fun a o q => ?_, fun q hq => ?_, W.nd⟩, .tup upd_same (r.mono (Ex.new e))⟩
    · by_cases ha : a = p
      · subst ha; rw [upd_same] at q; cases q; exact h
      · rw [upd_ne ha] at q; exact W.ex a o q
    · by_cases ha : a = p
      · subst ha
        rw [upd_same] at q
        cases q
        cases e0 : H0 a with
        | none => exact .inr (.inl rfl)
        | some u =>
          have := W.e1 a u e0
          rw [h] at this
          cases this
          exact .inr (.inr ⟨vs, rfl, rfl⟩)
      · rw [upd_ne ha] at q; exact W.nw a o q
    · obtain ⟨a1, a2, u, a3, a4⟩ := W.own q hq
      have ne : q.1 ≠ p := fun z => by
        rw [z, h] at a3
        cases a3
        cases a4
      exact ⟨a1, by rw [upd_ne ne]; exact a2, u, a3, a4.mono (Ex.new e)⟩
/-- the heap without some addresses -/
def less (H : Hp) (as : List Addr) : Hp := fun b => if b ∈ as then none else H b
theorem less_in {H : Hp} {as : List Addr} {b : Addr} (h : b ∈ as) : less H as b = none := by unfold less; rw [if_pos h]
theorem less_out {H : Hp} {as : List Addr} {b : Addr} (h : b ∉ as) : less H as b = H b := by unfold less; rw [if_neg h]
theorem less_none {H : Hp} {as : List Addr} {b : Addr} (h : less H as b = none) : b ∈ as ∨ H b = none := by
  by_cases hb : b ∈ as
  · exact .inl hb
  · rw [less_out hb] at h; exact .inr h
/-- into a call: some owned objects go along -/
theorem Wok.into {M1 M2 : Mem} (W : Wok K F0 H0 F (M1 ++ M2) H) : Wok K F (less H (M1.map (·.1))) F M1 H := by
  have nd := W.nd
  rw [List.map_append] at nd
  refine ⟨W.ex, Ex.refl _, fun a o e => ?_, fun a o e => .inl e, fun q hq => ?_, (List.nodup_append.mp nd).1⟩
  · by_cases h : a ∈ M1.map (·.1)
    · rw [less_in h] at e; cases e
    · rw [less_out h] at e; exact e
  · obtain ⟨_, a2, a3⟩ := W.own q (List.mem_append_left _ hq)
    exact ⟨less_in (List.mem_map.mpr ⟨q, hq, rfl⟩), a2, a3⟩
/-- out of it -/
theorem Wok.back {M1 M2 M1' : Mem} (W : Wok K F0 H0 F (M1 ++ M2) H) (W' : Wok K F (less H (M1.map (·.1))) F' M1' H') : Wok K F0 H0 F' (M1' ++ M2) H' := by
  have nd := W.nd
  rw [List.map_append] at nd
  have hno : ∀ b, less H (M1.map (·.1)) b = none → H0 b = none := fun b hb => by
    rcases less_none hb with h | h
    · obtain ⟨q, hq, e⟩ := List.mem_map.mp h
      subst e
      exact (W.own q (List.mem_append_left _ hq)).1
    · exact W.e1.back h
  have h2 : ∀ q ∈ M2, less H (M1.map (·.1)) q.1 = H q.1 := fun q hq => less_out fun h => (List.nodup_append.mp nd).2.2 _ h _ (List.mem_map.mpr ⟨q, hq, rfl⟩) rfl
  refine ⟨W'.ex, W.e0.trans W'.e0, fun a o e => ?_, fun a o e => ?_, fun q hq => ?_, ?_⟩
  · refine W'.e1 a o ?_
    rw [less_out fun h => ?_]
    · exact W.e1 a o e
    · obtain ⟨q, hq, e'⟩ := List.mem_map.mp h
      have := (W.own q (List.mem_append_left _ hq)).1
      rw [e', e] at this
      cases this
  · rcases W'.nw a o e with h | h | ⟨vs, ho, h⟩
    · exact W.nw a o h
    · exact .inr (.inl (hno a h))
    · have ha : H a = some o := by
        by_cases hb : a ∈ M1.map (·.1)
        · rw [less_in hb] at h; cases h
        · rw [less_out hb] at h; exact h
      cases e0 : H0 a with
      | none => exact .inr (.inl rfl)
      | some u =>
        have := W.e1 a u e0
        rw [ha] at this
        cases this
        exact .inr (.inr ⟨vs, ho, rfl⟩)
  · rcases List.mem_append.mp hq with hq | hq
    · obtain ⟨a1, a2, a3⟩ := W'.own q hq
      exact ⟨hno _ a1, a2, a3⟩
    · obtain ⟨a1, a2, u, a3, a4⟩ := W.own q (List.mem_append_right _ hq)
      refine ⟨a1, ?_, u, W'.e1 _ _ ((h2 q hq).trans a3), a4.mono W'.e0⟩
      cases h : F' q.1 with
      | none => rfl
      | some v =>
        rcases W'.nw _ _ h with z | z | ⟨vs, ho, z⟩
        · rw [a2] at z; cases z
        · rw [h2 q hq, a3] at z; cases z
        · rw [h2 q hq, a3] at z
          cases z
          subst ho
          cases a4
  · rw [List.map_append]
    refine List.nodup_append.mpr ⟨W'.nd, (List.nodup_append.mp nd).2.1, fun b hb c hc e => ?_⟩
    obtain ⟨q, hq, e1⟩ := List.mem_map.mp hb
    obtain ⟨r, hr, e2⟩ := List.mem_map.mp hc
    subst e
    have z := (W'.own q hq).1
    rw [e1, ← e2, h2 r hr] at z
    obtain ⟨_, _, u, a3, _⟩ := W.own r (List.mem_append_right _ hr)
    rw [a3] at z
    cases z
theorem Wok.at (W : Wok K F0 H0 F M H) (h : (a, o) ∈ M) : ∃ u, H a = some u ∧ RepO K F u o := (W.own _ h).2.2
end

/-- the slots' data; none: not told -/
abbrev Sl := List (Option D)
structure Sok (K : PySem.W.Frag) (F : Hp) (ρ : Sl) (σ : St) : Prop where
  len : σ.length = ρ.length
  at_ : ∀ (i : Nat) (d : D), ρ[i]? = some (some d) → ∃ v, σ[i]? = some (some v) ∧ Rep K F v d
section
variable {K : PySem.W.Frag} {F F' : Hp} {ρ : Sl} {σ : St}
theorem Sok.mono (S : Sok K F ρ σ) (e : Ex F F') : Sok K F' ρ σ := ⟨S.len, fun i d h => let ⟨v, a, b⟩ := S.at_ i d h; ⟨v, a, b.mono e⟩⟩
theorem Sok.set {v : V} {d : D} (S : Sok K F ρ σ) (i : Nat) (r : Rep K F v d) : Sok K F (ρ.set i (some d)) (σ.set i (some v)) := by
  refine ⟨by rw [List.length_set, List.length_set]; exact S.len, fun j d' h => ?_⟩
  by_cases hj : i = j
  · subst hj
    by_cases hi : i < ρ.length
    · rw [List.getElem?_set_self hi] at h
      cases h
      exact ⟨v, List.getElem?_set_self (by rw [S.len]; exact hi), r⟩
    · rw [List.getElem?_eq_none (by rw [List.length_set]; omega)] at h
      cases h
  · rw [List.getElem?_set_ne hj] at h
    rw [List.getElem?_set_ne hj]
    exact S.at_ j d' h
/-- told anew -/
theorem Sok.re {v : V} {d : D} (S : Sok K F ρ σ) {i : Nat} (h : σ[i]? = some (some v)) (r : Rep K F v d) : Sok K F (ρ.set i (some d)) σ := by
  refine ⟨by rw [List.length_set]; exact S.len, fun j d' h' => ?_⟩
  by_cases hj : i = j
  · subst hj
    by_cases hi : i < ρ.length
    · rw [List.getElem?_set_self hi] at h'
      cases h'
      exact ⟨v, h, r⟩
    · rw [List.getElem?_eq_none (by rw [List.length_set]; omega)] at h'
      cases h'
  · rw [List.getElem?_set_ne hj] at h'
    exact S.at_ j d' h'
def wipeD (ρ : Sl) : List Nat → Sl
  | [] => ρ
  | v :: vs => (wipeD ρ vs).set v none
theorem Sok.wipe (S : Sok K F ρ σ) : ∀ vs : List Nat, Sok K F (wipeD ρ vs) (wipe σ vs)
  | [] => S
  | v :: vs => by
    have T := Sok.wipe S vs
    refine ⟨by show (List.set _ _ _).length = (List.set _ _ _).length; rw [List.length_set, List.length_set]; exact T.len, fun j d' h => ?_⟩
    have h : ((wipeD ρ vs).set v none)[j]? = some (some d') := h
    show ∃ w, ((L2.wipe σ vs).set v none)[j]? = some (some w) ∧ _
    by_cases hj : v = j
    · subst hj
      by_cases hi : v < (wipeD ρ vs).length
      · rw [List.getElem?_set_self hi] at h
        cases h
      · rw [List.getElem?_eq_none (by rw [List.length_set]; omega)] at h
        cases h
    · rw [List.getElem?_set_ne hj] at h
      rw [List.getElem?_set_ne hj]
      exact T.at_ j d' h
theorem wipe_set {i : Nat} {x : Option V} : ∀ {vs : List Nat}, i ∈ vs → wipe (σ.set i x) vs = wipe σ vs
  | v :: vs, h => by
    show (wipe (σ.set i x) vs).set v none = (wipe σ vs).set v none
    by_cases hv : i ∈ vs
    · rw [wipe_set hv]
    · rcases List.mem_cons.mp h with e | h
      · subst e
        have : ∀ ws : List Nat, i ∉ ws → wipe (σ.set i x) ws = (wipe σ ws).set i x := by
          intro ws
          induction ws with
          | nil => intro _; rfl
          | cons w ws ih =>
            intro hn
            show (wipe (σ.set i x) ws).set w none = ((wipe σ ws).set w none).set i x
            rw [ih fun z => hn (List.mem_cons_of_mem _ z), List.set_comm _ _ (fun z => hn (by rw [z]; exact List.mem_cons_self ..))]
        rw [this vs hv, List.set_set]
      · exact absurd h hv
theorem wipe_out' {i : Nat} {x : Option V} : ∀ {ws : List Nat}, i ∉ ws → wipe (σ.set i x) ws = (wipe σ ws).set i x
  | [], _ => rfl
  | w :: ws, hn => by
    show (wipe (σ.set i x) ws).set w none = ((wipe σ ws).set w none).set i x
    rw [wipe_out' fun z => hn (List.mem_cons_of_mem _ z), List.set_comm _ _ (fun z => hn (by rw [z]; exact List.mem_cons_self ..))]
theorem wipe_wipe : ∀ {vs ws : List Nat}, (∀ i ∈ ws, i ∈ vs) → wipe (wipe σ ws) vs = wipe σ vs
  | vs, [], _ => rfl
  | vs, w :: ws, h => by
    show wipe ((wipe σ ws).set w none) vs = wipe σ vs
    rw [wipe_set (h w (List.mem_cons_self ..)), wipe_wipe fun i hi => h i (List.mem_cons_of_mem _ hi)]
end
end Qr

/-! #### Qb -/
set_option maxHeartbeats 2000000
/-! The judgements over data: an expression, a test, arguments, a statement; the core rules. -/
namespace Qr
open PySem L2

def EvR (K : PySem.W.Frag) (te : TE) (ρ : Sl) (M : Mem) (R : D → Mem → Prop) : Prop :=
  ∀ (F0 H0 F H : Hp) (σ : L2.St), Sok K F ρ σ → Wok K F0 H0 F M H → ∀ Q : VK,
    (∀ v d M' F' H', Ex F F' → Wok K F0 H0 F' M' H' → Rep K F' v d → R d M' → Q v H') → te σ H Q
def TvR (K : PySem.W.Frag) (tt : TT) (ρ : Sl) (M : Mem) (R : Bool → Mem → Prop) : Prop :=
  ∀ (F0 H0 F H : Hp) (σ : L2.St), Sok K F ρ σ → Wok K F0 H0 F M H → ∀ Q : Bool → Hp → Prop,
    (∀ b M' F' H', Ex F F' → Wok K F0 H0 F' M' H' → R b M' → Q b H') → tt σ H Q
def EaR (K : PySem.W.Frag) (ta : TA) (ρ : Sl) (M : Mem) (R : List D → Mem → Prop) : Prop :=
  ∀ (F0 H0 F H : Hp) (σ : L2.St), Sok K F ρ σ → Wok K F0 H0 F M H → ∀ Q : List V → Hp → Prop,
    (∀ vs ds M' F' H', Ex F F' → Wok K F0 H0 F' M' H' → Reps K F' vs ds → R ds M' → Q vs H') → ta σ H Q
def EoR (K : PySem.W.Frag) (to : TO) (ρ : Sl) (M : Mem) (R : Option Int → Mem → Prop) : Prop :=
  ∀ (F0 H0 F H : Hp) (σ : L2.St), Sok K F ρ σ → Wok K F0 H0 F M H → ∀ Q : Option Int → Hp → Prop,
    (∀ o M' F' H', Ex F F' → Wok K F0 H0 F' M' H' → R o M' → Q o H') → to σ H Q
/-- a target: the slots is change, no heap -/
def TgR (g : TG) (is : List Nat) (K : PySem.W.Frag) (d : D) (ρ : Sl) (R : Sl → Prop) : Prop :=
  ∀ (F H : Hp) (σ : L2.St) (v : V), Sok K F ρ σ → Ex F H → Rep K F v d → ∀ Q : L2.St → Hp → Prop,
    (∀ σ' ρ', (∀ vs : List Nat, (∀ i ∈ is, i ∈ vs) → wipe σ' vs = wipe σ vs) → Sok K F ρ' σ' → R ρ' → Q σ' H) → g v σ H Q
def TgsR (g : TGs) (is : List Nat) (K : PySem.W.Frag) (ds : List D) (ρ : Sl) (R : Sl → Prop) : Prop :=
  ∀ (F H : Hp) (σ : L2.St) (vs : List V), Sok K F ρ σ → Ex F H → Reps K F vs ds → ∀ Q : L2.St → Hp → Prop,
    (∀ σ' ρ', (∀ ws : List Nat, (∀ i ∈ is, i ∈ ws) → wipe σ' ws = wipe σ ws) → Sok K F ρ' σ' → R ρ' → Q σ' H) → g vs σ H Q
structure Post where
  nx : Sl → Mem → Prop
  rt : D → Mem → Prop
  bk : Sl → Mem → Prop := fun _ _ => False
  ct : Sl → Mem → Prop := fun _ _ => False
def StR (K : PySem.W.Frag) (ts : TS) (ρ : Sl) (M : Mem) (P : Post) : Prop :=
  ∀ (F0 H0 F H : Hp) (σ : L2.St), Sok K F ρ σ → Wok K F0 H0 F M H → ∀ E : Ends,
    (∀ σ' ρ' M' F' H', Ex F F' → Sok K F' ρ' σ' → Wok K F0 H0 F' M' H' → P.nx ρ' M' → E.nx σ' H') →
    (∀ v d M' F' H', Ex F F' → Wok K F0 H0 F' M' H' → Rep K F' v d → P.rt d M' → E.rt v H') →
    (∀ σ' ρ' M' F' H', Ex F F' → Sok K F' ρ' σ' → Wok K F0 H0 F' M' H' → P.bk ρ' M' → E.bk σ' H') →
    (∀ σ' ρ' M' F' H', Ex F F' → Sok K F' ρ' σ' → Wok K F0 H0 F' M' H' → P.ct ρ' M' → E.ct σ' H') → ts E σ H

section
variable {K : PySem.W.Frag} {ρ : Sl} {M : Mem} {R : D → Mem → Prop} {te ta tb : TE} {d : D} {i : Nat}
theorem EvR.mono {R' : D → Mem → Prop} (h : EvR K te ρ M R) (k : ∀ d M', R d M' → R' d M') : EvR K te ρ M R' := fun F0 H0 F H σ S W Q q =>
  h F0 H0 F H σ S W Q fun v d M' F' H' e W' r x => q v d M' F' H' e W' r (k d M' x)
theorem TvR.mono {tt : TT} {R R' : Bool → Mem → Prop} (h : TvR K tt ρ M R) (k : ∀ d M', R d M' → R' d M') : TvR K tt ρ M R' := fun F0 H0 F H σ S W Q q =>
  h F0 H0 F H σ S W Q fun b M' F' H' e W' x => q b M' F' H' e W' (k b M' x)
theorem EvR.perm {M' : Mem} (h : EvR K te ρ M' R) (p : M.Perm M') : EvR K te ρ M R := fun F0 H0 F H σ S W Q q => h F0 H0 F H σ S (W.perm p) Q q
theorem StR.perm {ts : TS} {M' : Mem} {P : Post} (h : StR K ts ρ M' P) (p : M.Perm M') : StR K ts ρ M P := fun F0 H0 F H σ S W E a b c d => h F0 H0 F H σ S (W.perm p) E a b c d
theorem evr_var (h : ρ[i]? = some (some d)) (q : R d M) : EvR K (tVar i) ρ M R := fun F0 H0 F H σ S W Q k => by
  obtain ⟨v, e, r⟩ := S.at_ i d h
  exact ⟨v, e, k v d M F H (Ex.refl F) W r q⟩
theorem evr_c {v : V} (r : ∀ F, Rep K F v d) (q : R d M) : EvR K (tC v) ρ M R := fun F0 H0 F H σ S W Q k => k v d M F H (Ex.refl F) W (r F) q
theorem evr_int {n : Int} (q : R (.int n) M) : EvR K (tC (.int n)) ρ M R := evr_c (fun _ => .int n) q
theorem evr_bl {n : Bool} (q : R (.bl n) M) : EvR K (tC (.bl n)) ρ M R := evr_c (fun _ => .bl n) q
theorem evr_str {n : Str} (q : R (.str n) M) : EvR K (tC (.str n)) ρ M R := evr_c (fun _ => .str n) q
theorem evr_non (q : R .non M) : EvR K (tC .non) ρ M R := evr_c (fun _ => .non) q
theorem evr_ty {n : String} (q : R (.ty n) M) : EvR K (tC (.ty n)) ρ M R := evr_c (fun _ => .ty n) q
theorem evr_ref {a : Addr} (q : R (.loc a) M) : EvR K (tC (.ref a)) ρ M R := evr_c (fun _ => .loc a) q

/-- an operation on values -/
def O2 (K : PySem.W.Frag) (r : R2) (x y : D) (M : Mem) (R : D → Mem → Prop) : Prop :=
  ∀ (F0 H0 F H : Hp) (v w : V), Wok K F0 H0 F M H → Rep K F v x → Rep K F w y → ∀ Q : VK,
    (∀ v d M' F' H', Ex F F' → Wok K F0 H0 F' M' H' → Rep K F' v d → R d M' → Q v H') → r v w H Q
def O1 (K : PySem.W.Frag) (r : V → Hp → VK → Prop) (x : D) (M : Mem) (R : D → Mem → Prop) : Prop :=
  ∀ (F0 H0 F H : Hp) (v : V), Wok K F0 H0 F M H → Rep K F v x → ∀ Q : VK,
    (∀ v d M' F' H', Ex F F' → Wok K F0 H0 F' M' H' → Rep K F' v d → R d M' → Q v H') → r v H Q
def OL (K : PySem.W.Frag) (r : List V → Hp → VK → Prop) (xs : List D) (M : Mem) (R : D → Mem → Prop) : Prop :=
  ∀ (F0 H0 F H : Hp) (vs : List V), Wok K F0 H0 F M H → Reps K F vs xs → ∀ Q : VK,
    (∀ v d M' F' H', Ex F F' → Wok K F0 H0 F' M' H' → Rep K F' v d → R d M' → Q v H') → r vs H Q
theorem evr_op {r : R2} (h : EvR K ta ρ M fun x M1 => EvR K tb ρ M1 fun y M2 => O2 K r x y M2 R) : EvR K (tOp r ta tb) ρ M R := fun F0 H0 F H σ S W Q q =>
  h F0 H0 F H σ S W _ fun v x M1 F1 H1 e1 W1 r1 k => k F0 H0 F1 H1 σ (S.mono e1) W1 _ fun w y M2 F2 H2 e2 W2 r2 o =>
    o F0 H0 F2 H2 v w W2 (r1.mono e2) r2 Q fun z d M3 F3 H3 e3 W3 r3 x => q z d M3 F3 H3 ((e1.trans e2).trans e3) W3 r3 x
theorem evr_un {r : V → Hp → VK → Prop} (h : EvR K ta ρ M fun x M1 => O1 K r x M1 R) : EvR K (tUn r ta) ρ M R := fun F0 H0 F H σ S W Q q =>
  h F0 H0 F H σ S W _ fun v x M1 F1 H1 e1 W1 r1 o => o F0 H0 F1 H1 v W1 r1 Q fun z d M3 F3 H3 e3 W3 r3 x => q z d M3 F3 H3 (e1.trans e3) W3 r3 x
theorem evr_cb {r : List V → Hp → VK → Prop} {t : TA} (h : EaR K t ρ M fun x M1 => OL K r x M1 R) : EvR K (tCB r t) ρ M R := fun F0 H0 F H σ S W Q q =>
  h F0 H0 F H σ S W _ fun v x M1 F1 H1 e1 W1 r1 o => o F0 H0 F1 H1 v W1 r1 Q fun z d M3 F3 H3 e3 W3 r3 x => q z d M3 F3 H3 (e1.trans e3) W3 r3 x
theorem ear_nil {R : List D → Mem → Prop} (q : R [] M) : EaR K tNil ρ M R := fun F0 H0 F H σ S W Q k => k [] [] M F H (Ex.refl F) W .nil q
theorem ear_cons {R : List D → Mem → Prop} {t : TA} (h : EvR K ta ρ M fun x M1 => EaR K t ρ M1 fun xs M2 => R (x :: xs) M2) : EaR K (tCons ta t) ρ M R := fun F0 H0 F H σ S W Q q =>
  h F0 H0 F H σ S W _ fun v x M1 F1 H1 e1 W1 r1 k => k F0 H0 F1 H1 σ (S.mono e1) W1 _ fun vs xs M2 F2 H2 e2 W2 r2 z =>
    q (v :: vs) (x :: xs) M2 F2 H2 (e1.trans e2) W2 (.cons (r1.mono e2) r2) z
theorem eor_no {R : Option Int → Mem → Prop} (q : R none M) : EoR K tNoPart ρ M R := fun F0 H0 F H σ S W Q k => k none M F H (Ex.refl F) W q
theorem eor_part {R : Option Int → Mem → Prop} (h : EvR K ta ρ M fun x M1 => ∃ i, x = .int i ∧ R (some i) M1) : EoR K (tPart ta) ρ M R := fun F0 H0 F H σ S W Q q =>
  h F0 H0 F H σ S W _ fun v x M1 F1 H1 e1 W1 r1 ⟨i, e, k⟩ => by
    subst e
    cases r1
    exact ⟨i, rfl, q (some i) M1 F1 H1 e1 W1 k⟩

/-! ### new lists, tuples -/
theorem evr_lst {t : TA} (h : EaR K t ρ M fun ds M1 => ds.length ≤ 100000 ∧ R (.lst ds) M1) : EvR K (tLst t) ρ M R := fun F0 H0 F H σ S W Q q =>
  h F0 H0 F H σ S W _ fun vs ds M1 F1 H1 e1 W1 r1 ⟨hl, k⟩ => ⟨by rw [r1.length]; exact Nat.le_trans hl (by decide), fun p hp => by
    obtain ⟨W2, e2⟩ := W1.new hp (.lst vs)
    exact q _ _ _ _ _ (e1.trans e2) W2 (.lst upd_same (r1.mono e2)) k⟩
theorem evr_lstO {t : TA} (h : EaR K t ρ M fun ds M1 => ds.length ≤ 100000 ∧ ∀ p, (∀ q ∈ M1, q.1 ≠ p) → R (.loc p) ((p, .lst ds) :: M1)) : EvR K (tLst t) ρ M R := fun F0 H0 F H σ S W Q q =>
  h F0 H0 F H σ S W _ fun vs ds M1 F1 H1 e1 W1 r1 ⟨hl, k⟩ => ⟨by rw [r1.length]; exact Nat.le_trans hl (by decide), fun p hp => by
    have W2 := W1.newO hp (.lst r1)
    exact q _ _ _ _ _ e1 W2 (.loc p) (k p (W1.ne hp))⟩
theorem evr_tup {t : TA} (h : EaR K t ρ M fun ds M1 => ds.length ≤ 100000 ∧ R (.tup ds) M1) : EvR K (tTup t) ρ M R := fun F0 H0 F H σ S W Q q =>
  h F0 H0 F H σ S W _ fun vs ds M1 F1 H1 e1 W1 r1 ⟨hl, k⟩ => ⟨by rw [r1.length]; exact Nat.le_trans hl (by decide), fun p hp => by
    obtain ⟨W2, e2⟩ := W1.new hp (.tup vs)
    exact q _ _ _ _ _ (e1.trans e2) W2 (.tup upd_same (r1.mono e2)) k⟩

/-! ### ints -/
theorem o2_I0 {g : Int → Int → V} {g' : Int → Int → D} {i j : Int} (h : ∀ F, Rep K F (g i j) (g' i j)) (q : R (g' i j) M) : O2 K (rI0 g) (.int i) (.int j) M R := fun F0 H0 F H v w W r1 r2 Q k => by
  cases r1; cases r2
  exact ⟨i, j, rfl, rfl, k _ _ M F H (Ex.refl F) W (h F) q⟩
theorem o2_I {C : Int → Int → Prop} {g : Int → Int → V} {g' : Int → Int → D} {i j : Int} (h : ∀ F, Rep K F (g i j) (g' i j)) (c : C i j) (q : R (g' i j) M) : O2 K (rI C g) (.int i) (.int j) M R := fun F0 H0 F H v w W r1 r2 Q k => by
  cases r1; cases r2
  exact ⟨i, j, rfl, rfl, c, k _ _ M F H (Ex.refl F) W (h F) q⟩
theorem o2_or1 {r r' : R2} {x y : D} (h : O2 K r x y M R) : O2 K (fun x y H Q => r x y H Q ∨ r' x y H Q) x y M R := fun F0 H0 F H v w W r1 r2 Q k => .inl (h F0 H0 F H v w W r1 r2 Q k)
theorem o2_or2 {r r' : R2} {x y : D} (h : O2 K r' x y M R) : O2 K (fun x y H Q => r x y H Q ∨ r' x y H Q) x y M R := fun F0 H0 F H v w W r1 r2 Q k => .inr (h F0 H0 F H v w W r1 r2 Q k)
theorem ol_or1 {r r' : List V → Hp → VK → Prop} {x : List D} (h : OL K r x M R) : OL K (fun x H Q => r x H Q ∨ r' x H Q) x M R := fun F0 H0 F H v W r1 Q k => .inl (h F0 H0 F H v W r1 Q k)
theorem ol_or2 {r r' : List V → Hp → VK → Prop} {x : List D} (h : OL K r' x M R) : OL K (fun x H Q => r x H Q ∨ r' x H Q) x M R := fun F0 H0 F H v W r1 Q k => .inr (h F0 H0 F H v W r1 Q k)
theorem o1_neg {i : Int} (q : R (.int (-i)) M) : O1 K (rU fun i => .int (-i)) (.int i) M R := fun F0 H0 F H v W r1 Q k => by
  cases r1
  exact ⟨i, rfl, k _ _ M F H (Ex.refl F) W (.int _) q⟩
/-- == of scalars -/
def scD : D → Option V
  | .non => some .non | .bl b => some (.bl b) | .int i => some (.int i) | .str s => some (.str s) | _ => none
theorem scD_rep {F : Hp} {v : V} {d : D} {x : V} (h : scD d = some x) (r : Rep K F v d) : v = x := by
  cases r <;> first | (cases h; rfl) | cases h
theorem o2_eq {x y : D} {v w : V} (hx : scD x = some v) (hy : scD y = some w) (hs : scal v w = true) (q : R (.bl (decide (v = w))) M) : O2 K rEq x y M R := fun F0 H0 F H a b W r1 r2 Q k => by
  have e1 := scD_rep hx r1
  have e2 := scD_rep hy r2
  subst e1; subst e2
  exact ⟨hs, k _ _ M F H (Ex.refl F) W (.bl _) q⟩
theorem o2_ne {x y : D} {v w : V} (hx : scD x = some v) (hy : scD y = some w) (hs : scal v w = true) (q : R (.bl (!decide (v = w))) M) : O2 K rNe x y M R := fun F0 H0 F H a b W r1 r2 Q k => by
  have e1 := scD_rep hx r1
  have e2 := scD_rep hy r2
  subst e1; subst e2
  exact ⟨hs, k _ _ M F H (Ex.refl F) W (.bl _) q⟩

/-! ### items, lengths, slices -/
/-- what a D shows as a list (or tuple) to be read -/
inductive Items (M : Mem) : D → Bool → List D → Prop
  | lst (ds) : Items M (.lst ds) true ds
  | seq (ds) : Items M (.seq ds) true ds
  | tup (ds) : Items M (.tup ds) false ds
  | loc {a ds} (h : (a, DO.lst ds) ∈ M) : Items M (.loc a) true ds
theorem Items.read {F0 H0 F H : Hp} {x : D} {l : Bool} {ds : List D} {v : V} (it : Items M x l ds) (W : Wok K F0 H0 F M H) (r : Rep K F v x) :
    ∃ a vs, v = .ref a ∧ Reps K F vs ds ∧ if l = true then SqL K H a vs else SqT K H a vs := by
  cases it with
  | lst => cases r with | lst h r => exact ⟨_, _, rfl, r, .inl (.inl (W.ex _ _ h))⟩
  | seq => cases r with | seq h r => exact ⟨_, _, rfl, r, ex_l W.ex h⟩
  | tup => cases r with | tup h r => exact ⟨_, _, rfl, r, SqT.of (W.ex _ _ h)⟩
  | loc h =>
    cases r
    obtain ⟨u, hu, ro⟩ := W.at h
    cases ro with | lst r => exact ⟨_, _, rfl, r, .inl (.inl hu)⟩
theorem Reps.atI {F : Hp} {vs : List V} {ds : List D} {i : Int} (r : Reps K F vs ds) (h : L2.atI ds i = some d) : ∃ v, L2.atI vs i = some v ∧ Rep K F v d := by
  unfold L2.atI at h ⊢
  rw [r.length]
  cases e : ixN ds.length i with
  | none => rw [e] at h; cases h
  | some j => rw [e] at h; exact r.get h
theorem o2_ix {x : D} {l : Bool} {ds : List D} {i : Int} (it : Items M x l ds) (h : L2.atI ds i = some d) (q : R d M) : O2 K (rIx K) x (.int i) M R := fun F0 H0 F H a b W r1 r2 Q k => by
  obtain ⟨p, vs, rfl, r, hs⟩ := it.read W r1
  cases r2
  obtain ⟨v, hv, rv⟩ := r.atI h
  have z := k v d M F H (Ex.refl F) W rv q
  cases l with
  | true => exact .inl ⟨p, vs, i, v, rfl, rfl, hs, hv, z⟩
  | false => exact .inr (.inl ⟨p, vs, i, v, rfl, rfl, hs, hv, z⟩)
/-- len of a list, a tuple -/
def rLenA (K : PySem.W.Frag) : List V → Hp → VK → Prop := fun xs H Q => ∃ p ys, xs = [.ref p] ∧ (SqL K H p ys ∨ SqT K H p ys) ∧ Q (.int ys.length) H
theorem ol_len {x : D} {l : Bool} {ds : List D} (it : Items M x l ds) (q : R (.int (ds.length : Int)) M) : OL K (rLenA K) [x] M R := fun F0 H0 F H vs W r1 Q k => by
  cases r1 with
  | cons r1 t =>
    cases t
    obtain ⟨p, vs, rfl, r, hs⟩ := it.read W r1
    have z := k (.int vs.length) (.int ds.length) M F H (Ex.refl F) W (by rw [r.length]; exact .int _) q
    cases l with
    | true => exact ⟨p, vs, rfl, .inl hs, z⟩
    | false => exact ⟨p, vs, rfl, .inr hs, z⟩
end
end Qr

/-! #### Qc -/
set_option maxHeartbeats 2000000
/-! Statements, targets, loops, comprehensions over data. -/
namespace Qr
open PySem L2
section
variable {K : PySem.W.Frag} {ρ : Sl} {M : Mem} {R : D → Mem → Prop} {te ta tb tv : TE} {d : D} {i : Nat} {P : Post} {t u : TS}
theorem st_seq (h : StR K t ρ M { P with nx := fun ρ' M' => StR K u ρ' M' P }) : StR K (tSeq t u) ρ M P := fun F0 H0 F H σ S W E a b c dd =>
  h F0 H0 F H σ S W { E with nx := u E } (fun σ' ρ' M' F' H' e S' W' k => k F0 H0 F' H' σ' S' W' E
    (fun σ2 ρ2 M2 F2 H2 e2 => a σ2 ρ2 M2 F2 H2 (e.trans e2)) (fun v x M2 F2 H2 e2 => b v x M2 F2 H2 (e.trans e2)) (fun σ2 ρ2 M2 F2 H2 e2 => c σ2 ρ2 M2 F2 H2 (e.trans e2)) (fun σ2 ρ2 M2 F2 H2 e2 => dd σ2 ρ2 M2 F2 H2 (e.trans e2))) b c dd
theorem st_mono {P' : Post} (h : StR K t ρ M P) (hn : ∀ ρ M, P.nx ρ M → P'.nx ρ M) (hr : ∀ d M, P.rt d M → P'.rt d M) (hb : ∀ ρ M, P.bk ρ M → P'.bk ρ M) (hc : ∀ ρ M, P.ct ρ M → P'.ct ρ M) : StR K t ρ M P' :=
  fun F0 H0 F H σ S W E a b c dd => h F0 H0 F H σ S W E (fun σ' ρ' M' F' H' e S' W' k => a σ' ρ' M' F' H' e S' W' (hn _ _ k)) (fun v x M' F' H' e W' r k => b v x M' F' H' e W' r (hr _ _ k))
    (fun σ' ρ' M' F' H' e S' W' k => c σ' ρ' M' F' H' e S' W' (hb _ _ k)) (fun σ' ρ' M' F' H' e S' W' k => dd σ' ρ' M' F' H' e S' W' (hc _ _ k))
/-- what follows is shown once, from Mid -/
theorem st_cut (Mid : Sl → Mem → Prop) (h : StR K t ρ M { P with nx := Mid }) (k : ∀ ρ' M', Mid ρ' M' → StR K u ρ' M' P) : StR K (tSeq t u) ρ M P :=
  st_seq (st_mono h (fun ρ' M' m => k ρ' M' m) (fun _ _ x => x) (fun _ _ x => x) (fun _ _ x => x))
theorem st_next (q : P.nx ρ M) : StR K tNext ρ M P := fun F0 H0 F H σ S W E a b c dd => a σ ρ M F H (Ex.refl F) S W q
theorem st_brk (q : P.bk ρ M) : StR K tBreak ρ M P := fun F0 H0 F H σ S W E a b c dd => c σ ρ M F H (Ex.refl F) S W q
theorem st_ct (q : P.ct ρ M) : StR K tCont ρ M P := fun F0 H0 F H σ S W E a b c dd => dd σ ρ M F H (Ex.refl F) S W q
theorem st_ret (h : EvR K te ρ M P.rt) : StR K (tRet te) ρ M P := fun F0 H0 F H σ S W E a b c dd => h F0 H0 F H σ S W E.rt b
theorem st_drop (h : EvR K te ρ M fun _ M' => P.nx ρ M') : StR K (tDrop te) ρ M P := fun F0 H0 F H σ S W E a b c dd =>
  h F0 H0 F H σ S W _ fun v d M' F' H' e W' r k => a σ ρ M' F' H' e (S.mono e) W' k
theorem st_if {tt : TT} (h : TvR K tt ρ M fun b M' => if b = true then StR K t ρ M' P else StR K u ρ M' P) : StR K (tIfS tt t u) ρ M P := fun F0 H0 F H σ S W E a b c dd =>
  h F0 H0 F H σ S W _ fun x M' F' H' e W' k => by
    cases x with
    | true => exact k F0 H0 F' H' σ (S.mono e) W' E (fun σ2 ρ2 M2 F2 H2 e2 => a σ2 ρ2 M2 F2 H2 (e.trans e2)) (fun v x M2 F2 H2 e2 => b v x M2 F2 H2 (e.trans e2)) (fun σ2 ρ2 M2 F2 H2 e2 => c σ2 ρ2 M2 F2 H2 (e.trans e2)) (fun σ2 ρ2 M2 F2 H2 e2 => dd σ2 ρ2 M2 F2 H2 (e.trans e2))
    | false => exact k F0 H0 F' H' σ (S.mono e) W' E (fun σ2 ρ2 M2 F2 H2 e2 => a σ2 ρ2 M2 F2 H2 (e.trans e2)) (fun v x M2 F2 H2 e2 => b v x M2 F2 H2 (e.trans e2)) (fun σ2 ρ2 M2 F2 H2 e2 => c σ2 ρ2 M2 F2 H2 (e.trans e2)) (fun σ2 ρ2 M2 F2 H2 e2 => dd σ2 ρ2 M2 F2 H2 (e.trans e2))
/-! ### targets -/
theorem tg_name {j : Nat} {Rr : Sl → Prop} (q : Rr (ρ.set j (some d))) : TgR (gName j) [j] K d ρ Rr := fun F H σ v S e r Q k =>
  k (σ.set j (some v)) _ (fun vs h => wipe_set (h j (List.mem_cons_self ..))) (S.set j r) q
theorem tgs_nil {Rr : Sl → Prop} (q : Rr ρ) : TgsR gNil [] K [] ρ Rr := fun F H σ vs S e r Q k => by
  cases r
  exact ⟨rfl, k σ ρ (fun _ _ => rfl) S q⟩
theorem tgs_cons {g : TG} {gs : TGs} {is js : List Nat} {ds : List D} {Rr : Sl → Prop} (h : TgR g is K d ρ fun ρ' => TgsR gs js K ds ρ' Rr) : TgsR (gCons g gs) (is ++ js) K (d :: ds) ρ Rr := fun F H σ vs S e r Q k => by
  cases r with
  | cons r t =>
    refine ⟨_, _, rfl, h F H σ _ S e r _ fun σ1 ρ1 w1 S1 k1 => k1 F H σ1 _ S1 e t Q fun σ2 ρ2 w2 S2 k2 => k σ2 ρ2 (fun vs hv => ?_) S2 k2⟩
    rw [w2 vs fun i hi => hv i (List.mem_append_right _ hi), w1 vs fun i hi => hv i (List.mem_append_left _ hi)]
theorem tg_tup {gs : TGs} {is : List Nat} {n : Nat} {ds : List D} {Rr : Sl → Prop} (hn : ds.length = n) (h : TgsR gs is K ds ρ Rr) : TgR (gTup K n gs) is K (.tup ds) ρ Rr := fun F H σ v S e r Q k => by
  cases r with
  | tup ht r => exact ⟨_, _, rfl, SqT.of (e _ _ ht), r.length.trans hn, h F H σ _ S e r Q k⟩
theorem st_asg {g : TG} {is : List Nat} (h : EvR K te ρ M fun d M' => TgR g is K d ρ fun ρ' => P.nx ρ' M') : StR K (tAsg te g) ρ M P := fun F0 H0 F H σ S W E a b c dd =>
  h F0 H0 F H σ S W _ fun v d M' F' H' e W' r k => k F' H' σ v (S.mono e) W'.ex r E.nx fun σ' ρ' _ S' q => a σ' ρ' M' F' H' e S' W' q
theorem st_set {j : Nat} (h : EvR K te ρ M fun d M' => P.nx (ρ.set j (some d)) M') : StR K (tAsg te (gName j)) ρ M P := st_asg (h.mono fun d M' q => tg_name q)
theorem st_par {j l : Nat} {t : TA} (h : EaR K t ρ M fun ds M' => ∃ x y, ds = [x, y] ∧ P.nx ((ρ.set j (some x)).set l (some y)) M') : StR K (tPar j l t) ρ M P := fun F0 H0 F H σ S W E a b c dd =>
  h F0 H0 F H σ S W _ fun vs ds M' F' H' e W' r ⟨x, y, ed, k⟩ => by
    subst ed
    cases r with
    | cons r1 t =>
      cases t with
      | cons r2 t =>
        cases t
        exact ⟨_, _, rfl, a _ _ M' F' H' e (((S.mono e).set j r1).set l r2) W' k⟩
theorem st_par3 {j l m : Nat} {t : TA} (h : EaR K t ρ M fun ds M' => ∃ x y z, ds = [x, y, z] ∧ P.nx (((ρ.set j (some x)).set l (some y)).set m (some z)) M') : StR K (tPar3 j l m t) ρ M P := fun F0 H0 F H σ S W E a b c dd =>
  h F0 H0 F H σ S W _ fun vs ds M' F' H' e W' r ⟨x, y, z, ed, k⟩ => by
    subst ed
    cases r with
    | cons r1 t =>
      cases t with
      | cons r2 t =>
        cases t with
        | cons r3 t =>
          cases t
          exact ⟨_, _, _, rfl, a _ _ M' F' H' e ((((S.mono e).set j r1).set l r2).set m r3) W' k⟩
/-! ### an owned list -/
theorem evr_append {x : TE} (h : EvR K x ρ M fun o M1 => ∃ a, o = .loc a ∧ (∃ ds, (a, DO.lst ds) ∈ M1) ∧ EvR K te ρ M1 fun d M2 => ∃ ds Mr, M2.Perm ((a, .lst ds) :: Mr) ∧ ds.length < 100000 ∧ R .non ((a, .lst (ds ++ [d])) :: Mr)) :
    EvR K (tBM K "list" rAppend x (tCons te tNil)) ρ M R := fun F0 H0 F H σ S W Q q =>
  h F0 H0 F H σ S W _ fun v o M1 F1 H1 e1 W1 r1 ⟨a, eo, ⟨ds0, hm⟩, k⟩ => by
    subst eo
    cases r1
    obtain ⟨u0, hu0, ro0⟩ := W1.at hm
    refine ⟨.inl ⟨rfl, ?_⟩, ?_⟩
    · cases ro0 with | lst r => exact ⟨_, .inl (.inl hu0)⟩
    · refine k F0 H0 F1 H1 σ (S.mono e1) W1 _ fun w d M2 F2 H2 e2 W2 r2 ⟨ds, Mr, pm, hl, z⟩ => ?_
      have W3 := W2.perm pm
      obtain ⟨u, hu, ro⟩ := W3.at (List.mem_cons_self ..)
      cases ro with
      | lst r =>
        exact ⟨a, _, w, rfl, rfl, hu, by rw [r.length]; exact Nat.lt_of_lt_of_le hl (by decide), q _ _ _ _ _ (e1.trans e2) (W3.write (.lst (r.append (.one r2)))) .non z⟩
/-- xs[i] = e on an owned list -/
theorem st_setL {x y : TE} (h : EvR K te ρ M fun d M1 => EvR K x ρ M1 fun o M2 => EvR K y ρ M2 fun k M3 => ∃ a ds Mr n j, o = .loc a ∧ k = .int n ∧ M3.Perm ((a, .lst ds) :: Mr) ∧ ixN ds.length n = some j ∧ P.nx ρ ((a, .lst (ds.set j d)) :: Mr)) :
    StR K (tAsg te (gSub x y rSetL)) ρ M P := fun F0 H0 F H σ S W E a b c dd =>
  h F0 H0 F H σ S W _ fun v d M1 F1 H1 e1 W1 r1 k1 => k1 F0 H0 F1 H1 σ (S.mono e1) W1 _ fun o x' M2 F2 H2 e2 W2 r2 k2 => k2 F0 H0 F2 H2 σ (S.mono (e1.trans e2)) W2 _ fun kv y' M3 F3 H3 e3 W3 r3 ⟨p, ds, Mr, n, j, e4, e5, pm, hj, z⟩ => by
    subst e4; subst e5
    cases r2; cases r3
    have W4 := W3.perm pm
    obtain ⟨u, hu, ro⟩ := W4.at (List.mem_cons_self ..)
    cases ro with
    | lst r =>
      refine ⟨p, _, n, j, rfl, rfl, hu, by rw [r.length]; exact hj, ?_⟩
      exact a σ ρ _ F3 _ ((e1.trans e2).trans e3) (S.mono ((e1.trans e2).trans e3)) (W4.write (.lst (r.set (r1.mono (e2.trans e3)) j))) z
/-- an owned list is frozen from here on: the slot i tells it -/
theorem st_frz {a : Addr} {ds : List D} {Mr : Mem} (hi : ρ[i]? = some (some (.loc a))) (pm : M.Perm ((a, .lst ds) :: Mr)) (h : StR K t (ρ.set i (some (.lst ds))) Mr P) : StR K t ρ M P := fun F0 H0 F H σ S W E b c dd ee => by
  obtain ⟨u, W2, e2, ro, hu⟩ := (W.perm pm).freeze
  obtain ⟨v, hv, rv⟩ := S.at_ i _ hi
  cases rv
  cases ro with
  | lst r =>
    exact h F0 H0 _ H σ ((S.mono e2).re hv (.lst hu r)) W2 E (fun σ2 ρ2 M2 F2 H2 e3 => b σ2 ρ2 M2 F2 H2 (e2.trans e3)) (fun v x M2 F2 H2 e3 => c v x M2 F2 H2 (e2.trans e3)) (fun σ2 ρ2 M2 F2 H2 e3 => dd σ2 ρ2 M2 F2 H2 (e2.trans e3)) (fun σ2 ρ2 M2 F2 H2 e3 => ee σ2 ρ2 M2 F2 H2 (e2.trans e3))
theorem evr_frz {a : Addr} {ds : List D} {Mr : Mem} (hi : ρ[i]? = some (some (.loc a))) (pm : M.Perm ((a, .lst ds) :: Mr)) (h : EvR K te (ρ.set i (some (.lst ds))) Mr R) : EvR K te ρ M R := fun F0 H0 F H σ S W Q q => by
  obtain ⟨u, W2, e2, ro, hu⟩ := (W.perm pm).freeze
  obtain ⟨v, hv, rv⟩ := S.at_ i _ hi
  cases rv
  cases ro with
  | lst r => exact h F0 H0 _ H σ ((S.mono e2).re hv (.lst hu r)) W2 Q fun v x M2 F2 H2 e3 => q v x M2 F2 H2 (e2.trans e3)
theorem st_frzI {a C : Addr} {fs : List (Str × D)} {Mr : Mem} (hi : ρ[i]? = some (some (.loc a))) (pm : M.Perm ((a, .ins C fs) :: Mr)) (h : StR K t (ρ.set i (some (.ins C fs))) Mr P) : StR K t ρ M P := fun F0 H0 F H σ S W E b c dd ee => by
  obtain ⟨u, W2, e2, ro, hu⟩ := (W.perm pm).freeze
  obtain ⟨v, hv, rv⟩ := S.at_ i _ hi
  cases rv
  cases ro with
  | ins r =>
    exact h F0 H0 _ H σ ((S.mono e2).re hv (.ins hu r)) W2 E (fun σ2 ρ2 M2 F2 H2 e3 => b σ2 ρ2 M2 F2 H2 (e2.trans e3)) (fun v x M2 F2 H2 e3 => c v x M2 F2 H2 (e2.trans e3)) (fun σ2 ρ2 M2 F2 H2 e3 => dd σ2 ρ2 M2 F2 H2 (e2.trans e3)) (fun σ2 ρ2 M2 F2 H2 e3 => ee σ2 ρ2 M2 F2 H2 (e2.trans e3))

/-! ### fields -/
inductive IsIns (M : Mem) : D → Addr → List (Str × D) → Prop
  | ins (C fs) : IsIns M (.ins C fs) C fs
  | loc {a C fs} (h : (a, DO.ins C fs) ∈ M) : IsIns M (.loc a) C fs
theorem IsIns.read {F0 H0 F H : Hp} {x : D} {C : Addr} {fs : List (Str × D)} {v : V} (it : IsIns M x C fs) (W : Wok K F0 H0 F M H) (r : Rep K F v x) : ∃ a dx vs, v = .ref a ∧ H a = some (.ins C dx vs) ∧ RepF K F vs fs := by
  cases it with
  | ins => cases r with | ins h r => exact ⟨_, _, _, rfl, W.ex _ _ h, r⟩
  | loc h =>
    cases r
    obtain ⟨u, hu, ro⟩ := W.at h
    cases ro with | ins r => exact ⟨_, _, _, rfl, hu, r⟩
theorem evr_fld {f : Str} (h : EvR K ta ρ M fun x M1 => ∃ C fs d, IsIns M1 x C fs ∧ Cls K C ∧ NoAttr K C f ∧ fs.lookup f = some d ∧ R d M1) : EvR K (tFld K ta f) ρ M R := fun F0 H0 F H σ S W Q q =>
  h F0 H0 F H σ S W _ fun v x M1 F1 H1 e1 W1 r1 ⟨C, fs, d, it, hc, hn, hl, k⟩ => by
    obtain ⟨a, dx, vs, rfl, ha, r⟩ := it.read W1 r1
    obtain ⟨w, hw, rw'⟩ := r.lookup hl
    exact ⟨a, C, dx, vs, w, rfl, ha, hc, hn, hw, q _ _ _ _ _ e1 W1 rw' k⟩
theorem st_fld {f : Str} (h : EvR K tv ρ M fun d M1 => EvR K ta ρ M1 fun x M2 => ∃ a C fs Mr, x = .loc a ∧ M2.Perm ((a, .ins C fs) :: Mr) ∧ Cls K C ∧ NoAttr K C f ∧ fs.length < 1000 ∧ P.nx ρ ((a, .ins C (putD f d fs)) :: Mr)) :
    StR K (sFld K ta tv f) ρ M P := fun F0 H0 F H σ S W E b c dd ee =>
  h F0 H0 F H σ S W _ fun v d M1 F1 H1 e1 W1 r1 k1 => k1 F0 H0 F1 H1 σ (S.mono e1) W1 _ fun o x M2 F2 H2 e2 W2 r2 ⟨a, C, fs, Mr, eo, pm, hc, hn, hl, z⟩ => by
    subst eo
    cases r2
    have W3 := W2.perm pm
    obtain ⟨u, hu, ro⟩ := W3.at (List.mem_cons_self ..)
    cases ro with
    | ins r => exact ⟨a, C, _, _, rfl, hu, hc, hn, by rw [r.length]; exact hl, b σ ρ _ F2 _ (e1.trans e2) (S.mono (e1.trans e2)) (W3.write (.ins (r.put (r1.mono e2)))) z⟩

/-! ### tests -/
variable {tt uu : TT} {B : Bool → Mem → Prop}
theorem tvr_test (h : EvR K te ρ M fun d M1 => ∃ b, d = .bl b ∧ B b M1) : TvR K (tTest te) ρ M B := fun F0 H0 F H σ S W Q q =>
  h F0 H0 F H σ S W _ fun v d M1 F1 H1 e1 W1 r1 ⟨b, e, k⟩ => by
    subst e
    cases r1
    exact ⟨b, rfl, q b M1 F1 H1 e1 W1 k⟩
theorem tvr_and (h : TvR K tt ρ M fun b M1 => if b = true then TvR K uu ρ M1 B else B false M1) : TvR K (tAnd tt uu) ρ M B := fun F0 H0 F H σ S W Q q =>
  h F0 H0 F H σ S W _ fun b M1 F1 H1 e1 W1 k => by
    cases b with
    | true => exact k F0 H0 F1 H1 σ (S.mono e1) W1 Q fun b M2 F2 H2 e2 => q b M2 F2 H2 (e1.trans e2)
    | false => exact q false M1 F1 H1 e1 W1 k
theorem tvr_or (h : TvR K tt ρ M fun b M1 => if b = true then B true M1 else TvR K uu ρ M1 B) : TvR K (tOr tt uu) ρ M B := fun F0 H0 F H σ S W Q q =>
  h F0 H0 F H σ S W _ fun b M1 F1 H1 e1 W1 k => by
    cases b with
    | true => exact q true M1 F1 H1 e1 W1 k
    | false => exact k F0 H0 F1 H1 σ (S.mono e1) W1 Q fun b M2 F2 H2 e2 => q b M2 F2 H2 (e1.trans e2)
theorem tvr_not (h : TvR K tt ρ M fun b M1 => B (!b) M1) : TvR K (tNot tt) ρ M B := fun F0 H0 F H σ S W Q q =>
  h F0 H0 F H σ S W _ fun b M1 F1 H1 e1 W1 k => q _ M1 F1 H1 e1 W1 k
theorem tvr_yes (q : B true M) : TvR K tYes ρ M B := fun F0 H0 F H σ S W Q k => k true M F H (Ex.refl F) W q
theorem evr_if (h : TvR K tt ρ M fun b M1 => if b = true then EvR K ta ρ M1 R else EvR K tb ρ M1 R) : EvR K (tIf tt ta tb) ρ M R := fun F0 H0 F H σ S W Q q =>
  h F0 H0 F H σ S W _ fun b M1 F1 H1 e1 W1 k => by
    cases b with
    | true => exact k F0 H0 F1 H1 σ (S.mono e1) W1 Q fun v d M2 F2 H2 e2 => q v d M2 F2 H2 (e1.trans e2)
    | false => exact k F0 H0 F1 H1 σ (S.mono e1) W1 Q fun v d M2 F2 H2 e2 => q v d M2 F2 H2 (e1.trans e2)
theorem evr_andV (h : EvR K ta ρ M fun d M1 => ∃ b, d = .bl b ∧ if b = true then EvR K tb ρ M1 R else R (.bl false) M1) : EvR K (tAndV ta tb) ρ M R := fun F0 H0 F H σ S W Q q =>
  h F0 H0 F H σ S W _ fun v d M1 F1 H1 e1 W1 r1 ⟨b, e, k⟩ => by
    subst e
    cases r1
    refine ⟨b, rfl, ?_⟩
    cases b with
    | true => exact k F0 H0 F1 H1 σ (S.mono e1) W1 Q fun v d M2 F2 H2 e2 => q v d M2 F2 H2 (e1.trans e2)
    | false => exact q _ _ _ _ _ e1 W1 (.bl false) k
theorem evr_orV (h : EvR K ta ρ M fun d M1 => ∃ b, d = .bl b ∧ if b = true then R (.bl true) M1 else EvR K tb ρ M1 R) : EvR K (tOrV ta tb) ρ M R := fun F0 H0 F H σ S W Q q =>
  h F0 H0 F H σ S W _ fun v d M1 F1 H1 e1 W1 r1 ⟨b, e, k⟩ => by
    subst e
    cases r1
    refine ⟨b, rfl, ?_⟩
    cases b with
    | true => exact q _ _ _ _ _ e1 W1 (.bl true) k
    | false => exact k F0 H0 F1 H1 σ (S.mono e1) W1 Q fun v d M2 F2 H2 e2 => q v d M2 F2 H2 (e1.trans e2)
theorem evr_notV (h : EvR K ta ρ M fun d M1 => ∃ b, d = .bl b ∧ R (.bl (!b)) M1) : EvR K (tNotV ta) ρ M R := fun F0 H0 F H σ S W Q q =>
  h F0 H0 F H σ S W _ fun v d M1 F1 H1 e1 W1 r1 ⟨b, e, k⟩ => by
    subst e
    cases r1
    exact ⟨b, rfl, q _ _ _ _ _ e1 W1 (.bl _) k⟩
/-- a value's truth as a test: bools, ints, lists, tuples -/
def tTruV (K : PySem.W.Frag) (ta : TE) : TT := fun σ H Q => ta σ H fun x H' => ∃ k, TruV K x H' k ∧ Q k H'
inductive TruD (M : Mem) : D → Bool → Prop
  | bl (b) : TruD M (.bl b) b
  | items {x l ds} (h : Items M x l ds) : TruD M x (!ds.isEmpty)
theorem tvr_truth (h : EvR K te ρ M fun d M1 => ∃ b, TruD M1 d b ∧ B b M1) : TvR K (tTruV K te) ρ M B := fun F0 H0 F H σ S W Q q =>
  h F0 H0 F H σ S W _ fun v d M1 F1 H1 e1 W1 r1 ⟨b, e, k⟩ => by
    refine ⟨b, ?_, q b M1 F1 H1 e1 W1 k⟩
    cases e with
    | bl => cases r1; rfl
    | @items x l ds it =>
      obtain ⟨a, vs, rfl, r, hs⟩ := it.read W1 r1
      have e : (!ds.isEmpty) = !vs.isEmpty := by cases r <;> rfl
      cases l with
      | true => exact .inl ⟨vs, hs, e⟩
      | false => exact .inr (.inl ⟨vs, hs, e⟩)

/-! ### what is walked -/
def Yields (K : PySem.W.Frag) (F0 H0 F : Hp) (J : It) (ds : List D) : Prop := ∀ M' F' H', Ex F F' → Wok K F0 H0 F' M' H' →
  (∀ i d, ds[i]? = some d → J.go i H' ∧ ∀ x H'', J.yld i H' x H'' → ∃ F'', Ex F' F'' ∧ Wok K F0 H0 F'' M' H'' ∧ Rep K F'' x d) ∧ J.stop ds.length H'
def ItR (K : PySem.W.Frag) (wi : TI) (ρ : Sl) (M : Mem) (R : List D → Mem → Prop) : Prop :=
  ∀ (F0 H0 F H : Hp) (σ : L2.St), Sok K F ρ σ → Wok K F0 H0 F M H → ∀ Q : It → Hp → Prop,
    (∀ J ds M' F' H', Ex F F' → Wok K F0 H0 F' M' H' → Yields K F0 H0 F' J ds → R ds M' → Q J H') → wi σ H Q
theorem Yields.mono {F0 H0 F F' : Hp} {J : It} {ds : List D} (y : Yields K F0 H0 F J ds) (e : Ex F F') : Yields K F0 H0 F' J ds := fun M' F2 H2 e2 => y M' F2 H2 (e.trans e2)
/-- over a list or a tuple that stands still -/
def iSeq (K : PySem.W.Frag) (tl : TE) : TI := fun σ H R => tl σ H fun x H1 => ∃ a, x = .ref a ∧ (((∃ xs, SqL K H1 a xs) ∧ R (Itl K a) H1) ∨ ((∃ xs, SqT K H1 a xs) ∧ R (Itt K a) H1))
theorem reps_inj_len {F : Hp} {vs ws : List V} {ds : List D} (r : Reps K F vs ds) : vs.length = ds.length := r.length
/-- frozen items -/
inductive Frz : D → Bool → List D → Prop
  | lst (ds) : Frz (.lst ds) true ds
  | seq (ds) : Frz (.seq ds) true ds
  | tup (ds) : Frz (.tup ds) false ds
theorem sqL_inj {H : Hp} {a : Addr} {xs ys : List V} (h : Rd H a (.lst xs)) (h' : Rd H a (.lst ys)) : xs = ys := by
  rcases h with h | ⟨o, h⟩ <;> rcases h' with h' | ⟨o', h'⟩ <;> rw [h] at h' <;> cases h' <;> rfl
end
end Qr

/-! #### Qd -/
set_option maxHeartbeats 2000000
/-! Loops, comprehensions, calls over data. -/
namespace Qr
open PySem L2
section
variable {K : PySem.W.Frag} {ρ : Sl} {M : Mem} {R : D → Mem → Prop} {te ta tb tv : TE} {d : D} {i : Nat} {P : Post} {t u : TS} {RI : List D → Mem → Prop}

theorem itr_seq (h : EvR K ta ρ M fun x M1 => ∃ l ds, Frz x l ds ∧ RI ds M1) : ItR K (iSeq K ta) ρ M RI := fun F0 H0 F H σ S W Q q =>
  h F0 H0 F H σ S W _ fun v x M1 F1 H1 e1 W1 r1 ⟨l, ds, fz, k⟩ => by
    have key : ∃ a vs, v = .ref a ∧ Reps K F1 vs ds ∧ if l = true then SqL K F1 a vs else SqT K F1 a vs := by
      cases fz with
      | lst => cases r1 with | lst h r => exact ⟨_, _, rfl, r, .inl (.inl h)⟩
      | seq => cases r1 with | seq h r => exact ⟨_, _, rfl, r, h⟩
      | tup => cases r1 with | tup h r => exact ⟨_, _, rfl, r, SqT.of h⟩
    obtain ⟨a, vs, rfl, r, hs⟩ := key
    cases l with
    | true =>
      have hs : SqL K F1 a vs := hs
      refine ⟨a, rfl, .inl ⟨⟨vs, ex_l W1.ex hs⟩, q _ ds _ _ _ e1 W1 (fun M' F' H' e W' => ⟨fun i d hd => ?_, ?_⟩) k⟩⟩
      · have hs' : SqL K H' a vs := ex_l W'.ex (ex_l e hs)
        obtain ⟨w, hw, rw'⟩ := r.get hd
        refine ⟨⟨vs, w, hs', hw⟩, fun x H'' ⟨hh, hx⟩ => ?_⟩
        subst hh
        have := hx vs hs'
        rw [hw] at this
        cases this
        exact ⟨F', Ex.refl _, W', rw'.mono e⟩
      · exact ⟨vs, ex_l W'.ex (ex_l e hs), by rw [r.length]; exact Nat.le_refl _⟩
    | false =>
      have hs : SqT K F1 a vs := hs
      refine ⟨a, rfl, .inr ⟨⟨vs, ex_t W1.ex hs⟩, q _ ds _ _ _ e1 W1 (fun M' F' H' e W' => ⟨fun i d hd => ?_, ?_⟩) k⟩⟩
      · have hs' : SqT K H' a vs := ex_t W'.ex (ex_t e hs)
        obtain ⟨w, hw, rw'⟩ := r.get hd
        refine ⟨⟨vs, w, hs', hw⟩, fun x H'' ⟨hh, hx⟩ => ?_⟩
        subst hh
        have := hx vs hs'
        rw [hw] at this
        cases this
        exact ⟨F', Ex.refl _, W', rw'.mono e⟩
      · exact ⟨vs, ex_t W'.ex (ex_t e hs), by rw [r.length]; exact Nat.le_refl _⟩
theorem reps_one {F : Hp} {vs : List V} {d : D} (r : Reps K F vs [d]) : ∃ v, vs = [v] ∧ Rep K F v d := by
  cases r with
  | cons r t => cases t; exact ⟨_, rfl, r⟩
theorem reps_two {F : Hp} {vs : List V} {d e : D} (r : Reps K F vs [d, e]) : ∃ v w, vs = [v, w] ∧ Rep K F v d ∧ Rep K F w e := by
  cases r with
  | cons r t => cases t with | cons r' t => cases t; exact ⟨_, _, rfl, r, r'⟩
theorem itr_list (h : EvR K ta ρ M fun x M1 => ∃ ds, Frz x true ds ∧ RI ds M1) : ItR K (iList K ta) ρ M RI := fun F0 H0 F H σ S W Q q =>
  h F0 H0 F H σ S W _ fun v x M1 F1 H1 e1 W1 r1 ⟨ds, fz, k⟩ => by
    have key : ∃ a vs, v = .ref a ∧ Reps K F1 vs ds ∧ SqL K F1 a vs := by
      cases fz with
      | lst => cases r1 with | lst h r => exact ⟨_, _, rfl, r, .inl (.inl h)⟩
      | seq => cases r1 with | seq h r => exact ⟨_, _, rfl, r, h⟩
    obtain ⟨a, vs, rfl, r, hs⟩ := key
    refine ⟨a, rfl, ⟨vs, ex_l W1.ex hs⟩, q _ ds _ _ _ e1 W1 (fun M' F' H' e W' => ⟨fun i d hd => ?_, ?_⟩) k⟩
    · have hs' : SqL K H' a vs := ex_l W'.ex (ex_l e hs)
      obtain ⟨w, hw, rw'⟩ := r.get hd
      refine ⟨⟨vs, w, hs', hw⟩, fun x H'' ⟨hh, hx⟩ => ?_⟩
      subst hh
      have := hx vs hs'
      rw [hw] at this
      cases this
      exact ⟨F', Ex.refl _, W', rw'.mono e⟩
    · exact ⟨vs, ex_l W'.ex (ex_l e hs), by rw [r.length]; exact Nat.le_refl _⟩
def rgD (lo : Int) (n : Nat) : List D := (List.range n).map fun k => .int (lo + (k : Nat))
theorem rgD_length (lo : Int) (n : Nat) : (rgD lo n).length = n := by unfold rgD; rw [List.length_map, List.length_range]
theorem rgD_get {lo : Int} {n i : Nat} {d : D} : (rgD lo n)[i]? = some d ↔ i < n ∧ d = .int (lo + (i : Nat)) := by
  unfold rgD
  rw [List.getElem?_map]
  by_cases h : i < n
  · rw [List.getElem?_range h]
    exact ⟨fun e => ⟨h, (Option.some.inj e).symm⟩, fun e => by rw [e.2]; rfl⟩
  · rw [List.getElem?_eq_none (by rw [List.length_range]; omega)]
    exact ⟨fun e => (nomatch e), fun e => absurd e.1 h⟩
theorem yields_range {F0 H0 F : Hp} {lo : Int} {n : Nat} : Yields K F0 H0 F (Itr lo n) (rgD lo n) := fun M' F' H' e W' => by
  refine ⟨fun i d hd => ?_, by rw [rgD_length]; exact Nat.le_refl _⟩
  obtain ⟨h1, h2⟩ := rgD_get.mp hd
  subst h2
  refine ⟨h1, fun x H'' ⟨hh, hx⟩ => ?_⟩
  subst hh; subst hx
  exact ⟨F', Ex.refl _, W', .int _⟩
theorem itr_rng1 {t : TA} (h : EaR K t ρ M fun ds M1 => ∃ j : Int, ds = [.int j] ∧ (-4000000000000000000 ≤ j ∧ j ≤ 4000000000000000000) ∧ RI (rgD 0 j.toNat) M1) : ItR K (iRng1 t) ρ M RI := fun F0 H0 F H σ S W Q q =>
  h F0 H0 F H σ S W _ fun vs ds M1 F1 H1 e1 W1 r1 ⟨j, ed, hb, k⟩ => by
    subst ed
    cases r1 with
    | cons r t =>
      cases t; cases r
      exact ⟨j, rfl, by omega, by omega, q _ _ _ _ _ e1 W1 yields_range k⟩
theorem itr_rng2 {t : TA} (h : EaR K t ρ M fun ds M1 => ∃ i j : Int, ds = [.int i, .int j] ∧ (-4000000000000000000 ≤ i ∧ i ≤ 4000000000000000000) ∧ (-4000000000000000000 ≤ j ∧ j ≤ 4000000000000000000) ∧ RI (rgD i (j - i).toNat) M1) : ItR K (iRng2 t) ρ M RI := fun F0 H0 F H σ S W Q q =>
  h F0 H0 F H σ S W _ fun vs ds M1 F1 H1 e1 W1 r1 ⟨i, j, ed, hb, hb', k⟩ => by
    subst ed
    cases r1 with
    | cons r t =>
      cases t with
      | cons r' t =>
        cases t; cases r; cases r'
        exact ⟨i, j, rfl, ⟨by omega, by omega, by omega, by omega⟩, q _ _ _ _ _ e1 W1 yields_range k⟩
/-- the pairs of enumerate -/
def enD (ds : List D) : List D := ds.mapIdx fun i d => .tup [.int (i : Nat), d]
theorem enD_length (ds : List D) : (enD ds).length = ds.length := List.length_mapIdx
theorem enD_get {ds : List D} {i : Nat} {x : D} (h : (enD ds)[i]? = some x) : ∃ d, ds[i]? = some d ∧ x = .tup [.int (i : Nat), d] := by
  unfold enD at h
  rw [List.getElem?_mapIdx] at h
  cases e : ds[i]? with
  | none => rw [e] at h; cases h
  | some d => rw [e] at h; exact ⟨d, rfl, (Option.some.inj h).symm⟩
theorem yields_enum {F0 H0 F : Hp} {a : Addr} {vs : List V} {ds : List D} (hs : SqL K F a vs) (r : Reps K F vs ds) : Yields K F0 H0 F (Ite K a) (enD ds) := fun M' F' H' e W' => by
  have hs' : SqL K H' a vs := ex_l W'.ex (ex_l e hs)
  refine ⟨fun i d hd => ?_, ⟨vs, hs', by rw [enD_length, r.length]; exact Nat.le_refl _⟩⟩
  obtain ⟨d', hd', rfl⟩ := enD_get hd
  obtain ⟨w, hw, rw'⟩ := r.get hd'
  refine ⟨⟨vs, w, hs', hw⟩, fun x H'' ⟨T, y, ex, hT, eH, hy⟩ => ?_⟩
  subst ex; subst eH
  have := hy vs hs'
  rw [hw] at this
  cases this
  obtain ⟨W2, e2⟩ := W'.new hT (.tup [.int (i : Nat), w])
  exact ⟨_, e2, W2, .tup upd_same (.cons (.int _) (.one (rw'.mono (e.trans e2))))⟩
theorem itr_enum {t : TA} (h : EaR K t ρ M fun xs M1 => ∃ x ds, xs = [x] ∧ Frz x true ds ∧ RI (enD ds) M1) : ItR K (iEnum K t) ρ M RI := fun F0 H0 F H σ S W Q q =>
  h F0 H0 F H σ S W _ fun vs xs M1 F1 H1 e1 W1 r1 ⟨x, ds, ed, fz, k⟩ => by
    subst ed
    obtain ⟨v0, rfl, r⟩ := reps_one r1
    have key : ∃ a vs, v0 = V.ref a ∧ Reps K F1 vs ds ∧ SqL K F1 a vs := by
      cases fz with
      | lst => cases r with | lst h r => exact ⟨_, _, rfl, r, .inl (.inl h)⟩
      | seq => cases r with | seq h r => exact ⟨_, _, rfl, r, h⟩
    obtain ⟨a, vs, rfl, r, hs⟩ := key
    exact ⟨a, vs, rfl, ex_l W1.ex hs, q _ _ _ _ _ e1 W1 (yields_enum hs r) k⟩

/-! ### for -/
theorem st_for {wi : TI} {g : TG} {is : List Nat} (h : ItR K wi ρ M fun ds M1 => ∃ Iv : Nat → Sl → Mem → Prop, Iv 0 ρ M1 ∧
    (∀ i d ρ' M', ds[i]? = some d → Iv i ρ' M' → TgR g is K d ρ' fun ρ2 => StR K t ρ2 M' { nx := Iv (i + 1), ct := Iv (i + 1), bk := P.nx, rt := P.rt }) ∧ ∀ ρ' M', Iv ds.length ρ' M' → P.nx ρ' M') : StR K (tFor wi g t) ρ M P := fun F0 H0 F H σ S W E a b c dd =>
  h F0 H0 F H σ S W _ fun J ds M1 F1 H1 e1 W1 y ⟨Iv, h0, hs, hd⟩ => by
    refine ⟨fun i m σ' H' => m = ds.length - i ∧ i ≤ ds.length ∧ ∃ F' ρ' M', Ex F1 F' ∧ Sok K F' ρ' σ' ∧ Wok K F0 H0 F' M' H' ∧ Iv i ρ' M', ⟨ds.length, by simp, Nat.zero_le _, F1, ρ, M1, Ex.refl _, S.mono e1, W1, h0⟩, ?_⟩
    rintro i m σ' H' ⟨rfl, hi, F', ρ', M', e', S', W', iv⟩
    obtain ⟨y1, y2⟩ := y M' F' H' e' W'
    by_cases hlt : i < ds.length
    · obtain ⟨g1, g2⟩ := y1 i ds[i] (List.getElem?_eq_getElem hlt)
      refine .inr ⟨g1, fun σ2 H2 => ∃ F2 ρ2 M2, Ex F1 F2 ∧ Sok K F2 ρ2 σ2 ∧ Wok K F0 H0 F2 M2 H2 ∧ Iv (i + 1) ρ2 M2, fun σ2 H2 ⟨F2, ρ2, M2, z1, z2, z3, z4⟩ => ⟨ds.length - (i + 1), by omega, rfl, hlt, F2, ρ2, M2, z1, z2, z3, z4⟩, fun x H'' hy => ?_⟩
      obtain ⟨F'', e'', W'', rx⟩ := g2 x H'' hy
      refine hs i _ ρ' M' (List.getElem?_eq_getElem hlt) iv F'' H'' σ' x (S'.mono e'') W''.ex rx _ fun σ2 ρ2 _ S2 st => ?_
      exact st F0 H0 F'' H'' σ2 S2 W'' _ (fun σ3 ρ3 M3 F3 H3 e3 S3 W3 k => ⟨F3, ρ3, M3, (e'.trans e'').trans e3, S3, W3, k⟩) (fun v x M3 F3 H3 e3 W3 r3 k => b v x M3 F3 H3 ((e1.trans (e'.trans e'')).trans e3) W3 r3 k)
        (fun σ3 ρ3 M3 F3 H3 e3 S3 W3 k => a σ3 ρ3 M3 F3 H3 ((e1.trans (e'.trans e'')).trans e3) S3 W3 k) (fun σ3 ρ3 M3 F3 H3 e3 S3 W3 k => ⟨F3, ρ3, M3, (e'.trans e'').trans e3, S3, W3, k⟩)
    · have e : i = ds.length := by omega
      subst e
      exact .inl ⟨y2, a σ' ρ' M' F' H' (e1.trans e') S' W' (hd ρ' M' iv)⟩

/-! ### a comprehension: the list that grows is hidden in the frame -/
theorem Wok.hide {F0 H0 F H : Hp} {p : Addr} {o : DO} (W : Wok K F0 H0 F ((p, o) :: M) H) : ∃ u, H p = some u ∧ RepO K F u o ∧ H0 p = none ∧ F0 p = none ∧ Wok K F0 (upd H0 p u) F M H := by
  obtain ⟨h0, hf, u, hu, ro⟩ := W.own (p, o) (List.mem_cons_self ..)
  have nd := W.nd
  rw [List.map_cons, List.nodup_cons] at nd
  refine ⟨u, hu, ro, h0, W.e0.back hf, W.ex, W.e0, fun b v e => ?_, fun b v e => ?_, fun q hq => ?_, nd.2⟩
  · by_cases hb : b = p
    · subst hb; rw [upd_same] at e; cases e; exact hu
    · rw [upd_ne hb] at e; exact W.e1 b v e
  · have hb : b ≠ p := fun z => by subst z; rw [hf] at e; cases e
    rw [upd_ne hb]
    exact W.nw b v e
  · have hb : q.1 ≠ p := fun e => nd.1 (List.mem_map.mpr ⟨q, hq, e⟩)
    obtain ⟨a1, a2, a3⟩ := W.own q (List.mem_cons_of_mem _ hq)
    exact ⟨by rw [upd_ne hb]; exact a1, a2, a3⟩
theorem Wok.show {F0 H0 F' H' : Hp} {p : Addr} {u : HO} {o : DO} (W : Wok K F0 (upd H0 p u) F' M H') (h0 : H0 p = none) (f0 : F0 p = none) (ro : RepO K F' u o) : Wok K F0 H0 F' ((p, o) :: M) H' := by
  have hp : ∀ q ∈ M, q.1 ≠ p := fun q hq z => by
    have := (W.own q hq).1
    rw [z, upd_same] at this
    cases this
  refine ⟨W.ex, W.e0, fun b v e => W.e1 b v ?_, fun b v e => ?_, fun q hq => ?_, ?_⟩
  · rw [upd_ne (ne_of_none e h0)]; exact e
  · rcases W.nw b v e with z | z | ⟨vs, hv, z⟩
    · exact .inl z
    · by_cases hb : b = p
      · subst hb; rw [upd_same] at z; cases z
      · rw [upd_ne hb] at z; exact .inr (.inl z)
    · by_cases hb : b = p
      · subst hb
        rw [upd_same] at z
        cases z
        subst hv
        cases ro
      · rw [upd_ne hb] at z; exact .inr (.inr ⟨vs, hv, z⟩)
  · rcases List.mem_cons.mp hq with z | hq
    · subst z
      refine ⟨h0, ?_, u, W.e1 _ _ upd_same, ro⟩
      cases e : F' p with
      | none => rfl
      | some v =>
        rcases W.nw p v e with z | z | ⟨vs, hv, z⟩
        · rw [f0] at z; cases z
        · rw [upd_same] at z; cases z
        · rw [upd_same] at z
          cases z
          subst hv
          cases ro
    · obtain ⟨a1, a2, a3⟩ := W.own q hq
      rw [upd_ne (hp q hq)] at a1
      exact ⟨a1, a2, a3⟩
  · rw [List.map_cons, List.nodup_cons]
    refine ⟨fun hm => ?_, W.nd⟩
    obtain ⟨q, hq, e⟩ := List.mem_map.mp hm
    exact hp q hq e
theorem evr_lc {wi : TI} {g : TG} {tt : TT} {is vs : List Nat} (hi : ∀ i ∈ is, i ∈ vs) (h : ItR K wi ρ M fun ds M1 => ∃ os : List (Option D), os.length = ds.length ∧ ds.length ≤ 100000 ∧
    (∀ (i : Nat) d o, ds[i]? = some d → os[i]? = some o → TgR g is K d (wipeD ρ vs) fun ρ2 => TvR K tt ρ2 M1 fun b M2 => M2 = M1 ∧ if b = true then EvR K te ρ2 M1 fun y M3 => M3 = M1 ∧ o = some y else o = none) ∧ R (.lst (os.filterMap id)) M1) :
    EvR K (tLc wi g tt te vs) ρ M R := fun F0 H0 F H σ S W Q q =>
  h F0 H0 F H σ S W _ fun J ds M1 F1 H1 e1 W1 y ⟨os, hl, hz, hs, hR⟩ Dl hD => by
    refine ⟨fun i m H' => m = ds.length - i ∧ i ≤ ds.length ∧ ∃ F', Ex F1 F' ∧ Wok K F0 H0 F' ((Dl, .lst ((os.take i).filterMap id)) :: M1) H', ⟨ds.length, by simp, Nat.zero_le _, F1, Ex.refl _, W1.newO hD (.lst .nil)⟩, ?_⟩
    rintro i m H' ⟨rfl, hi', F', e', W'⟩
    obtain ⟨y1, y2⟩ := y _ F' H' e' W'
    by_cases hlt : i < ds.length
    · obtain ⟨g1, g2⟩ := y1 i ds[i] (List.getElem?_eq_getElem hlt)
      have hlo : i < os.length := by omega
      refine .inr ⟨g1, fun H2 => ∃ F2, Ex F1 F2 ∧ Wok K F0 H0 F2 ((Dl, .lst ((os.take (i + 1)).filterMap id)) :: M1) H2, fun H2 ⟨F2, z1, z2⟩ => ⟨ds.length - (i + 1), by omega, rfl, hlt, F2, z1, z2⟩, fun x H'' hy => ?_⟩
      obtain ⟨F'', e'', W'', rx⟩ := g2 x H'' hy
      have S2 : Sok K F'' (wipeD ρ vs) (wipe σ vs) := (S.mono (e1.trans (e'.trans e''))).wipe vs
      refine hs i _ os[i] (List.getElem?_eq_getElem hlt) (List.getElem?_eq_getElem hlo) F'' H'' (wipe σ vs) x S2 W''.ex rx _ fun σ2 ρ2 w2 S3 tv => ?_
      refine ⟨by rw [w2 vs hi, wipe_wipe fun i h => h], ?_⟩
      obtain ⟨u, hu, ro, h0, f0, W3⟩ := W''.hide
      refine tv F0 _ F'' H'' σ2 S3 W3 _ fun b M2 F4 H4 e4 W4 ⟨em, k⟩ => ?_
      subst em
      have tk : os.take (i + 1) = os.take i ++ [os[i]] := by rw [List.take_succ, List.getElem?_eq_getElem hlo]; rfl
      cases b with
      | true =>
        show te σ2 H4 _
        refine k F0 _ F4 H4 σ2 (S3.mono e4) W4 _ fun v yd M5 F5 H5 e5 W5 r5 ⟨em, eo⟩ => ?_
        subst em
        have W6 := W5.show h0 f0 (ro.mono (e4.trans e5))
        obtain ⟨u', hu', ro'⟩ := W6.at (List.mem_cons_self ..)
        cases ro' with
        | lst r =>
          have hfl := List.length_filterMap_le id (os.take i)
          rw [List.length_take] at hfl
          refine ⟨_, hu', by rw [r.length]; exact Nat.lt_of_lt_of_le (by omega : _ < 100000) (by decide), F5, (e'.trans e'').trans (e4.trans e5), ?_⟩
          rw [tk, List.filterMap_append, eo]
          exact W6.write (.lst (r.append (.one r5)))
      | false =>
        refine ⟨F4, (e'.trans e'').trans e4, ?_⟩
        have k : os[i] = none := k
        rw [tk, List.filterMap_append, k]
        have W6 := W4.show h0 f0 (ro.mono e4)
        simpa using W6
    · have e : i = ds.length := by omega
      subst e
      refine .inl ⟨y2, ?_⟩
      obtain ⟨u, W2, e2, ro, hu⟩ := W'.freeze
      rw [← hl, List.take_length] at ro
      cases ro with
      | lst r => exact q _ _ _ _ _ ((e1.trans e').trans e2) W2 (.lst hu r) hR
/-- without tests, over typed items -/
theorem evr_lcm {α : Type} {wi : TI} {g : TG} {is vs : List Nat} (hi : ∀ i ∈ is, i ∈ vs) (h : ItR K wi ρ M fun ds M1 => ∃ (xs : List α) (en f : α → D), ds = xs.map en ∧ xs.length ≤ 100000 ∧
    (∀ x ∈ xs, TgR g is K (en x) (wipeD ρ vs) fun ρ2 => EvR K te ρ2 M1 fun y M3 => M3 = M1 ∧ y = f x) ∧ R (.lst (xs.map f)) M1) : EvR K (tLc wi g tYes te vs) ρ M R :=
  evr_lc hi fun F0 H0 F H σ S W Q q => h F0 H0 F H σ S W Q fun J ds M' F' H' e W' y ⟨xs, en, f, ed, hz, ht, hR⟩ => by
    subst ed
    refine q J _ M' F' H' e W' y ⟨xs.map fun x => some (f x), by rw [List.length_map, List.length_map], by rw [List.length_map]; exact hz, fun i d o hd ho => ?_, ?_⟩
    · rw [List.getElem?_map] at hd ho
      cases hx : xs[i]? with
      | none => rw [hx] at hd; cases hd
      | some x =>
        rw [hx] at hd ho
        cases hd; cases ho
        intro F2 H2 σ2 v S2 e2 r2 Q2 q2
        exact ht x (List.mem_of_getElem? hx) F2 H2 σ2 v S2 e2 r2 Q2 fun σ' ρ' w S' k => q2 σ' ρ' w S' (tvr_yes ⟨rfl, k.mono fun y M3 ⟨a, b⟩ => ⟨a, by rw [b]⟩⟩)
    · have : (xs.map fun x => some (f x)).filterMap id = xs.map f := by
        rw [List.filterMap_map]
        show List.filterMap (fun x => some (f x)) xs = _
        rw [List.filterMap_eq_map']
      rw [this]
      exact hR
/-- with a test -/
theorem evr_lcf {α : Type} {wi : TI} {g : TG} {tt : TT} {is vs : List Nat} (hi : ∀ i ∈ is, i ∈ vs) (h : ItR K wi ρ M fun ds M1 => ∃ (xs : List α) (en f : α → D) (p : α → Bool), ds = xs.map en ∧ xs.length ≤ 100000 ∧
    (∀ x ∈ xs, TgR g is K (en x) (wipeD ρ vs) fun ρ2 => TvR K tt ρ2 M1 fun b M2 => M2 = M1 ∧ b = p x ∧ (b = true → EvR K te ρ2 M1 fun y M3 => M3 = M1 ∧ y = f x)) ∧ R (.lst ((xs.filter p).map f)) M1) : EvR K (tLc wi g tt te vs) ρ M R :=
  evr_lc hi fun F0 H0 F H σ S W Q q => h F0 H0 F H σ S W Q fun J ds M' F' H' e W' y ⟨xs, en, f, p, ed, hz, ht, hR⟩ => by
    subst ed
    refine q J _ M' F' H' e W' y ⟨xs.map fun x => if p x then some (f x) else none, by rw [List.length_map, List.length_map], by rw [List.length_map]; exact hz, fun i d o hd ho => ?_, ?_⟩
    · rw [List.getElem?_map] at hd ho
      cases hx : xs[i]? with
      | none => rw [hx] at hd; cases hd
      | some x =>
        rw [hx] at hd ho
        cases hd; cases ho
        intro F2 H2 σ2 v S2 e2 r2 Q2 q2
        refine ht x (List.mem_of_getElem? hx) F2 H2 σ2 v S2 e2 r2 Q2 fun σ' ρ' w S' k => q2 σ' ρ' w S' (k.mono fun b M2 ⟨a, eb, c⟩ => ⟨a, ?_⟩)
        cases b with
        | true => exact (c rfl).mono fun y M3 ⟨a, b⟩ => ⟨a, by show (if p x = true then some (f x) else none) = some y; rw [b, ← eb]; rfl⟩
        | false => show (if p x = true then some (f x) else none) = none; rw [← eb]; rfl
    · have : ∀ l : List α, (l.map fun x => if p x then some (f x) else none).filterMap id = (l.filter p).map f := fun l => by
        induction l with
        | nil => rfl
        | cons x l ih =>
          rw [List.map_cons, List.filterMap_cons, List.filter_cons]
          cases hp : p x <;> simp [ih]
      rw [this]
      exact hR
end
end Qr

/-! #### Qe -/
set_option maxHeartbeats 2000000
/-! Calls: promises over data; the calls of defs, methods, classes, by any promise that stands. -/
namespace Qr
open PySem L2
open C8 (Cal Met Mak)
abbrev C0 : CXT := C8.CX0
abbrev N0 : XK := C8.E0

/-- a promise: from the arguments' data and the owned objects that come along -/
def spM (K : PySem.W.Frag) (pre : List D → Mem → (D → Mem → Prop) → Prop) : Sp := fun vs H Q _ =>
  ∃ F H0 M ds R, Reps K F vs ds ∧ Wok K F H0 F M H ∧ pre ds M R ∧ ∀ v d M' F' H', Wok K F H0 F' M' H' → Rep K F' v d → R d M' → Q v H'
/-- of a def that owns nothing and changes nothing: the value alone -/
def pureP (p : List D → D → Prop) : List D → Mem → (D → Mem → Prop) → Prop := fun ds M R => M = [] ∧ ∃ d, p ds d ∧ R = fun d' _ => d' = d
abbrev spD (K : PySem.W.Frag) (p : List D → D → Prop) : Sp := spM K (pureP p)
/-- of an __init__: the fields behind it -/
def initP (C : Addr) (p : List D → List (Str × D) → Prop) : List D → Mem → (D → Mem → Prop) → Prop := fun ds M R => ∃ x ds' fs, ds = .loc x :: ds' ∧ M = [(x, .ins C [])] ∧ p ds' fs ∧ R = fun d M' => d = .non ∧ M' = [(x, .ins C fs)]
abbrev spI (K : PySem.W.Frag) (C : Addr) (p : List D → List (Str × D) → Prop) : Sp := spM K (initP C p)

section
variable (P : Program) (w : World) (K : PySem.W.Frag) (mg : Str → Option Value) (base : Heap)
/-- f(..) by any promise that stands for the name x -/
def tCallX (j : Nat) (x : Str) (t : TA) : TE := fun σ H Q => t σ H fun vs H1 => ∃ sp k, Cal P w K mg base k x sp [] ∧ k ≤ j ∧ sp vs H1 Q N0
/-- o.m(..) by any promise that stands for the class of o -/
def tMethX (j : Nat) (m : Str) (ta : TE) (t : TA) : TE := fun σ H Q => ta σ H fun x H1 => ∃ a C dx fs sp k, x = .ref a ∧ H1 a = some (.ins C dx fs) ∧ fs.lookup m = none ∧ Met P w K mg base k C m sp [] ∧ k ≤ j ∧
  t σ H1 fun vs H2 => sp (x :: vs) H2 Q N0
/-- C(..) -/
def tMakeX (j : Nat) (x : Str) (t : TA) : TE := fun σ H Q => t σ H fun vs H1 => ∃ sp k C, Mak P w K mg base k x C sp [] ∧ k + 1 ≤ j ∧ ∀ y dx, H1 y = none → H1 dx = none → dx ≠ y →
  sp (.ref y :: vs) (upd (upd H1 dx (.own y)) y (.ins C dx [])) (fun v H2 => v = .non ∧ Q (.ref y) H2) N0
end
section
variable {X : Cx} {j : Nat} {x m : Str} {p pos apos : Pos} {e o : Expr} {es : List Expr} {ta : TE} {t : TA}
theorem pe_cx (hr : Room j X.A) (hg : Gl X x) (ha : PA X (e :: es) t)
    (hdb : (x == ("__debug__" : Str)) = false := by decide) (he : starEach (e :: es) X.env = (false, eval e X.env) :: starEach es X.env := by rfl) (hpl : (backTo pos (starEach es X.env)).any (·.1) = false := by rfl)
    (hm : (∃ f, X.mg x = some (.ref f) ∧ PySem.W.keepIn X.K (.ref f) = true)) :
    PE X (.Call (.Name x p) (e :: es) [] pos) (tCallX X.prog X.w X.K X.mg X.base j x t) := by
  obtain ⟨f, hm, kp⟩ := hm
  refine ⟨fun pins s σ H Q I h => ?_⟩
  refine wpAny_Call_Name_kw (ld_glob I hg hm ?_ hdb)
  refine PySem.W.callWith_K (h₀ := X.base) I.ok.mod.kin kp (thn (ha.run pos pins s σ H _ I h) fun us s1 ⟨vs, H1, I1, r, q⟩ => ⟨I1.kIn, ?_⟩) he hpl
  obtain ⟨sp, k, c, hk, q⟩ := q
  obtain ⟨f', fd, ps, ds, F, hm', _, b, d⟩ := c.ex
  rw [hm] at hm'
  cases hm'
  exact run_fn F (hr.mono hk) b d C8.pass0 I1 r (by rw [List.append_nil]; exact q)
theorem pe_cx0 (hr : Room j X.A) (hg : Gl X x) (hdb : (x == ("__debug__" : Str)) = false := by decide)
    (hm : (∃ f, X.mg x = some (.ref f) ∧ PySem.W.keepIn X.K (.ref f) = true)) :
    PE X (.Call (.Name x p) [] [] pos) (tCallX X.prog X.w X.K X.mg X.base j x tNil) := by
  obtain ⟨f, hm, kp⟩ := hm
  refine ⟨fun pins s σ H Q I h => ?_⟩
  refine wpAny_Call_Name_kw (ld_glob I hg hm ?_ hdb)
  obtain ⟨sp, k, c, hk, q⟩ := h
  obtain ⟨f', fd, ps, ds, F, hm', _, b, d⟩ := c.ex
  rw [hm] at hm'
  cases hm'
  exact PySem.W.callWith_K0 I.kIn kp (run_fn (us := []) F (hr.mono hk) b d C8.pass0 I .nil (by rw [List.nil_append]; exact q))
theorem pe_kx (hr : Room j X.A) (hg : Gl X x) (ha : PA X (e :: es) t)
    (hdb : (x == ("__debug__" : Str)) = false := by decide) (he : starEach (e :: es) X.env = (false, eval e X.env) :: starEach es X.env := by rfl) (hpl : (backTo pos (starEach es X.env)).any (·.1) = false := by rfl)
    (hm : (∃ f, X.mg x = some (.ref f) ∧ PySem.W.keepIn X.K (.ref f) = true)) :
    PE X (.Call (.Name x p) (e :: es) [] pos) (tMakeX X.prog X.w X.K X.mg X.base j x t) := by
  obtain ⟨C, hm, kp⟩ := hm
  refine ⟨fun pins s σ H Q I h => ?_⟩
  refine wpAny_Call_Name_kw (ld_glob I hg hm ?_ hdb)
  refine PySem.W.callWith_K (h₀ := X.base) I.ok.mod.kin kp (thn (ha.run pos pins s σ H _ I h) fun us s1 ⟨vs, H1, I1, r, q⟩ => ⟨I1.kIn, ?_⟩) he hpl
  obtain ⟨sp, k, C', c, hk, q⟩ := q
  obtain ⟨f', fd, ps, ds, mk, F, hm', b, d⟩ := c.ex
  rw [hm] at hm'
  cases hm'
  exact run_make mk F (hr.mono hk) b d C8.pass0 I1 r (by rw [List.append_nil]; exact q)
theorem pe_mx {pl : Sem Bool} (hr : Room j X.A) (he : PE X o ta) (ha : PA X (e :: es) t)
    (hcl : ∀ k C sp, Met X.prog X.w X.K X.mg X.base k C m sp [] → True := by intros; trivial)
    (hst : starEach (e :: es) X.env = (false, eval e X.env) :: starEach es X.env := by rfl) (hpl : (backTo pos (starEach es X.env)).any (·.1) = false := by rfl)
    (ht : eval (.Call (.Attribute o m apos) (e :: es) [] pos) X.env = (do
      let ov ← eval o X.env
      standAt apos.atName
      let (f, first) ← holding [ov] (getMethod ov m pl)
      callWith pos f first (backTo pos (starEach (e :: es) X.env)) (backToKw pos (keywordEach [] X.env))) := by rfl) :
    PE X (.Call (.Attribute o m apos) (e :: es) [] pos) (tMethX X.prog X.w X.K X.mg X.base j m ta t) := by
  refine ⟨fun pins s σ H Q I h => ?_⟩
  refine PySem.W.methodCall_KW (pl := pl) (thn (he.run pins s σ H _ I h) fun u s1 ⟨x, H1, I1, rx, a, C, dx, fs, sp, k, ex, ea, l, c, hk, q⟩ => ?_) ht
  subst ex
  obtain rfl : u = Value.ref a := rx
  obtain ⟨f, fd, ps, ds, hc, hm, F, b, d⟩ := c.ex
  refine getmeth_ok I1 ea hc hm l ?_
  refine PySem.W.callWith_K (first := [.ref a]) (h₀ := X.base) I.ok.mod.kin hm.kp (thn (ha.run pos pins s1 σ H1 _ I1 q) fun us s2 ⟨vs, H2, I2, r, q2⟩ => ⟨I2.kIn, ?_⟩) hst hpl
  exact run_fn (us := .ref a :: us) (vs := .ref a :: vs) F (hr.mono hk) b d C8.pass0 I2 (.cons rfl r) (by rw [List.append_nil]; exact q2)
theorem pe_mx0 {pl : Sem Bool} (hr : Room j X.A) (he : PE X o ta)
    (ht : eval (.Call (.Attribute o m apos) [] [] pos) X.env = (do
      let ov ← eval o X.env
      standAt apos.atName
      let (f, first) ← holding [ov] (getMethod ov m pl)
      callWith pos f first (backTo pos (starEach [] X.env)) (backToKw pos (keywordEach [] X.env))) := by rfl) :
    PE X (.Call (.Attribute o m apos) [] [] pos) (tMethX X.prog X.w X.K X.mg X.base j m ta tNil) := by
  refine ⟨fun pins s σ H Q I h => ?_⟩
  refine PySem.W.methodCall_KW (pl := pl) (thn (he.run pins s σ H _ I h) fun u s1 ⟨x, H1, I1, rx, a, C, dx, fs, sp, k, ex, ea, l, c, hk, q⟩ => ?_) ht
  subst ex
  obtain rfl : u = Value.ref a := rx
  obtain ⟨f, fd, ps, ds, hc, hm, F, b, d⟩ := c.ex
  refine getmeth_ok I1 ea hc hm l ?_
  exact PySem.W.callWith_K0 (first := [.ref a]) I1.kIn hm.kp (run_fn (us := [.ref a]) (vs := [.ref a]) F (hr.mono hk) b d C8.pass0 I1 (.cons rfl .nil) (by rw [List.append_nil]; exact q))
end

/-! ### calls over data -/
section
variable {P : Program} {w : World} {K : PySem.W.Frag} {mg : Str → Option Value} {base : Heap} {ρ : Sl} {M : Mem} {R : D → Mem → Prop} {j k : Nat} {x m : Str} {t : TA} {ta : TE}
/-- into a promise, the owned Ma along, the rest Mb kept -/
theorem sp_in {pre : List D → Mem → (D → Mem → Prop) → Prop} {F0 H0 F H : Hp} {vs : List V} {ds : List D} {Ma Mb : Mem} {Rc : D → Mem → Prop} (r : Reps K F vs ds) (W : Wok K F0 H0 F (Ma ++ Mb) H) (hp : pre ds Ma Rc) {Q : VK} {E : XK}
    (q : ∀ v d Ma' F' H', Ex F F' → Wok K F0 H0 F' (Ma' ++ Mb) H' → Rep K F' v d → Rc d Ma' → Q v H') : spM K pre vs H Q E :=
  ⟨F, _, Ma, ds, Rc, r, W.into, hp, fun v d M' F' H' W' r' k => q v d M' F' H' W'.e0 (W.back W') r' k⟩
theorem evr_callM {pre : List D → Mem → (D → Mem → Prop) → Prop} (c : Cal P w K mg base k x (spM K pre) []) (hk : k ≤ j)
    (h : EaR K t ρ M fun ds M1 => ∃ Ma Mb Rc, M1.Perm (Ma ++ Mb) ∧ pre ds Ma Rc ∧ ∀ d Ma', Rc d Ma' → R d (Ma' ++ Mb)) : EvR K (tCallX P w K mg base j x t) ρ M R := fun F0 H0 F H σ S W Q q =>
  h F0 H0 F H σ S W _ fun vs ds M1 F1 H1 e1 W1 r1 ⟨Ma, Mb, Rc, pm, hp, z⟩ => ⟨_, k, c, hk, sp_in r1 (W1.perm pm) hp fun v d Ma' F' H' e W' r k => q v d _ F' H' (e1.trans e) W' r (z d Ma' k)⟩
theorem evr_call {p : List D → D → Prop} (c : Cal P w K mg base k x (spD K p) []) (hk : k ≤ j) (h : EaR K t ρ M fun ds M1 => ∃ d, p ds d ∧ R d M1) : EvR K (tCallX P w K mg base j x t) ρ M R := fun F0 H0 F H σ S W Q q =>
  h F0 H0 F H σ S W _ fun vs ds M1 F1 H1 e1 W1 r1 ⟨d, hp, z⟩ => ⟨_, k, c, hk, sp_in (Ma := []) (Mb := M1) r1 W1 ⟨rfl, d, hp, rfl⟩ fun v d' Ma' F' H' e W' r k => q v d M1 F' H' (e1.trans e) W'.sub (by have k : d' = d := k; rw [← k]; exact r) z⟩
theorem evr_meth {p : List D → D → Prop} (h : EvR K ta ρ M fun o M1 => ∃ C fs k p, IsIns M1 o C fs ∧ fs.lookup m = none ∧ Met P w K mg base k C m (spD K p) [] ∧ k ≤ j ∧ EaR K t ρ M1 fun ds M2 => ∃ d, p (o :: ds) d ∧ R d M2) :
    EvR K (tMethX P w K mg base j m ta t) ρ M R := fun F0 H0 F H σ S W Q q =>
  h F0 H0 F H σ S W _ fun v o M1 F1 H1 e1 W1 r1 ⟨C, fs, k, p, it, hl, c, hk, z⟩ => by
    obtain ⟨a, dx, vs, rfl, ha, rf⟩ := it.read W1 r1
    refine ⟨a, C, dx, vs, _, k, rfl, ha, rf.lookup_none hl, c, hk, z F0 H0 F1 H1 σ (S.mono e1) W1 _ fun us ds M2 F2 H2 e2 W2 r2 ⟨d, hp, y⟩ => ?_⟩
    exact sp_in (Ma := []) (Mb := M2) (.cons (r1.mono e2) r2) W2 ⟨rfl, d, hp, rfl⟩ fun v d' Ma' F' H' e W' r k => q v d M2 F' H' ((e1.trans e2).trans e) W'.sub (by have k : d' = d := k; rw [← k]; exact r) y
theorem evr_methM (h : EvR K ta ρ M fun o M1 => ∃ C fs k pre, IsIns M1 o C fs ∧ fs.lookup m = none ∧ Met P w K mg base k C m (spM K pre) [] ∧ k ≤ j ∧ EaR K t ρ M1 fun ds M2 => ∃ Ma Mb Rc, M2.Perm (Ma ++ Mb) ∧ pre (o :: ds) Ma Rc ∧ ∀ d Ma', Rc d Ma' → R d (Ma' ++ Mb)) :
    EvR K (tMethX P w K mg base j m ta t) ρ M R := fun F0 H0 F H σ S W Q q =>
  h F0 H0 F H σ S W _ fun v o M1 F1 H1 e1 W1 r1 ⟨C, fs, k, pre, it, hl, c, hk, z⟩ => by
    obtain ⟨a, dx, vs, rfl, ha, rf⟩ := it.read W1 r1
    refine ⟨a, C, dx, vs, _, k, rfl, ha, rf.lookup_none hl, c, hk, z F0 H0 F1 H1 σ (S.mono e1) W1 _ fun us ds M2 F2 H2 e2 W2 r2 ⟨Ma, Mb, Rc, pm, hp, y⟩ => ?_⟩
    exact sp_in (.cons (r1.mono e2) r2) (W2.perm pm) hp fun v d Ma' F' H' e W' r k => q v d _ F' H' ((e1.trans e2).trans e) W' r (y d Ma' k)
/-- a new instance: its dict lies frozen beside it -/
theorem made {F0 H0 F H : Hp} {C y dx : Addr} (W : Wok K F0 H0 F M H) (hy : H y = none) (hd : H dx = none) (ne : dx ≠ y) :
    Wok K F0 H0 (upd F dx (.own y)) ((y, .ins C []) :: M) (upd (upd H dx (.own y)) y (.ins C dx [])) ∧ Ex F (upd F dx (.own y)) := by
  obtain ⟨W1, e1⟩ := W.new hd (.own y)
  exact ⟨W1.newO (by rw [upd_ne ne.symm]; exact hy) (.ins .nil), e1⟩
theorem evr_makeO {p : List D → List (Str × D) → Prop} {C : Addr} (c : Mak P w K mg base k x C (spI K C p) []) (hk : k + 1 ≤ j) (h : EaR K t ρ M fun ds M1 => ∃ fs, p ds fs ∧ ∀ y, (∀ q ∈ M1, q.1 ≠ y) → R (.loc y) ((y, .ins C fs) :: M1)) :
    EvR K (tMakeX P w K mg base j x t) ρ M R := fun F0 H0 F H σ S W Q q =>
  h F0 H0 F H σ S W _ fun vs ds M1 F1 H1 e1 W1 r1 ⟨fs, hp, z⟩ => ⟨_, k, C, c, hk, fun y dx hy hd ne => by
    obtain ⟨W2, e2⟩ := made (C := C) W1 hy hd ne
    refine sp_in (Ma := [(y, .ins C [])]) (Mb := M1) (.cons (.loc y) (r1.mono e2)) W2 ⟨y, ds, fs, rfl, rfl, hp, rfl⟩ fun v d Ma' F' H' e W' r ⟨ed, em⟩ => ?_
    subst ed; subst em
    cases r
    exact ⟨rfl, q _ _ _ _ _ ((e1.trans e2).trans e) W' (.loc y) (z y (W1.ne hy))⟩⟩
theorem evr_make {p : List D → List (Str × D) → Prop} {C : Addr} (c : Mak P w K mg base k x C (spI K C p) []) (hk : k + 1 ≤ j) (h : EaR K t ρ M fun ds M1 => ∃ fs, p ds fs ∧ R (.ins C fs) M1) :
    EvR K (tMakeX P w K mg base j x t) ρ M R := fun F0 H0 F H σ S W Q q =>
  h F0 H0 F H σ S W _ fun vs ds M1 F1 H1 e1 W1 r1 ⟨fs, hp, z⟩ => ⟨_, k, C, c, hk, fun y dx hy hd ne => by
    obtain ⟨W2, e2⟩ := made (C := C) W1 hy hd ne
    refine sp_in (Ma := [(y, .ins C [])]) (Mb := M1) (.cons (.loc y) (r1.mono e2)) W2 ⟨y, ds, fs, rfl, rfl, hp, rfl⟩ fun v d Ma' F' H' e W' r ⟨ed, em⟩ => ?_
    subst ed; subst em
    cases r
    obtain ⟨u, W3, e3, ro, hu⟩ := W'.freeze
    cases ro with
    | ins r => exact ⟨rfl, q _ _ _ _ _ (((e1.trans e2).trans e).trans e3) W3 (.ins hu r) z⟩⟩
end

/-! ### a def's body -/
theorem Reps.start {K : PySem.W.Frag} {F : Hp} {vs : List V} {ds : List D} (r : Reps K F vs ds) (N : List Str) : Sok K F (ds.map some ++ List.replicate (N.length - ds.length) none) (start N vs) := by
  refine ⟨by unfold L2.start; rw [List.length_append, List.length_append, List.length_map, List.length_map, r.length, List.length_replicate, List.length_replicate], fun i d h => ?_⟩
  unfold L2.start
  by_cases hi : i < ds.length
  · rw [List.getElem?_append_left (by rw [List.length_map]; exact hi), List.getElem?_map] at h
    rw [List.getElem?_append_left (by rw [List.length_map, r.length]; exact hi), List.getElem?_map]
    cases e : ds[i]? with
    | none => rw [e] at h; cases h
    | some x =>
      rw [e] at h
      cases h
      obtain ⟨v, hv, rv⟩ := r.get e
      exact ⟨v, by rw [hv]; rfl, rv⟩
  · rw [List.getElem?_append_right (by rw [List.length_map]; omega), List.getElem?_replicate] at h
    split at h <;> cases h
section
variable {P : Program} {w : World} {K : PySem.W.Frag} {mg : Str → Option Value} {base : Heap}
/-- the slots at the entry -/
abbrev ini (N : List Str) (ds : List D) : Sl := ds.map some ++ List.replicate (N.length - ds.length) none
/-- a body keeps a promise -/
theorem body_ok {N ps : List Str} {pre : List D → Mem → (D → Mem → Prop) → Prop} {t : TS} {vs : List V} {H : Hp} {Q : VK} {E : XK} (hsp : spM K pre vs H Q E)
    (st : ∀ ds M R, pre ds M R → StR K t (ini N ds) M { nx := fun _ M' => R .non M', rt := R }) : t { nx := fun _ H' => Q .non H', rt := Q } (start N vs) H := by
  obtain ⟨F, H0, M, ds, R, r, W, hp, q⟩ := hsp
  exact st ds M R hp F H0 F H (start N vs) (r.start N) W _ (fun σ' ρ' M' F' H' e S' W' k => q .non .non M' F' H' W' .non k) (fun v d M' F' H' e W' r k => q v d M' F' H' W' r k) (fun _ _ _ _ _ _ _ _ k => k.elim) (fun _ _ _ _ _ _ _ _ k => k.elim)
end
end Qr

/-! #### Qf -/
set_option maxHeartbeats 2000000
/-! Rules by values that take what comes: +, *, ==, in, walks of lists and tuples, enumerate. -/
namespace Qr
open PySem PySem.Spec PyProof.Rows L2
open AutoSeq1 (wpAny_loadPart')

/-! ### enumerate of a tuple -/
theorem meets_enumerate_new1 {v : Value} {o : Obj} {H : Heap → Prop} (B : Begins v o H) :
    Meets (Builtin.«enumerate.__new__» ⟨[.type "enumerate", v], []⟩) (fun _ R s => H s.heap ∧
      R (.ok (.ret (.ref (s.heap.push o).objs.size))) { s with heap := (s.heap.push o).push { cls := .type "enumerate", data := .fields #[.none, .bool false, .ref s.heap.objs.size, rawInt 0, .none, .none] } }) :=
  .of_wp fun prog w A R s h => by
    obtain ⟨hp, g, d, tk, os⟩ := s; obtain ⟨h1, h⟩ := h
    have hsub := sub_enumerate
    have q1 : ∀ {A' : Around} {E : Value → Shared → Prop} {Q : Value → Shared → Prop}, Q (.ref hp.objs.size) ⟨hp.push o, g, d, tk, os⟩ → wpAny (model prog w) A' (pyIter v) Q E ⟨hp, g, d, tk, os⟩ :=
      fun q => B.iter prog w _ _ ⟨hp, g, d, tk, os⟩ _ h1 q
    wp_walk using q1
    refine wpAny_stack_any fun st => wpAny_pure ?_
    split
    · rename_i c _ _ _ _ _
      cases (c == Value.type "enumerate")
      · wp_walk using q1
        exact ⟨_, rfl, h⟩
      · wp_walk using q1
        exact ⟨_, rfl, h⟩
    · wp_walk using q1
      exact ⟨_, rfl, h⟩
theorem enum_begins1 {prog : Program} {w : World} {A : Around} {E : Value → Shared → Prop} {s : Shared} {v : Value} {o : Obj} {H : Heap → Prop} {Q : Value → Shared → Prop} (B : Begins v o H) (h1 : H s.heap)
    (h : ∀ h', IsEnum h' (s.heap.objs.size + 1) s.heap.objs.size 0 .none → h'.get? s.heap.objs.size = some o → h'.objs.size = s.heap.objs.size + 2 →
      (∀ b o, s.heap.get? b = some o → h'.get? b = some o) → Q (.ref (s.heap.objs.size + 1)) { s with heap := h' }) :
    wpAny (model prog w) A (call (.type "enumerate") [v]) Q E s := by
  refine callType_new F.called_enumerate (by decide) (F.typeCall_enumerate_1 _) (F.newCall_enumerate_1 _) (fun obj => F.args_object_init_2 obj _) F.entry_enumerate_new
    (meets_enumerate_new1 B) ⟨h1, ?_⟩
  have hz : (s.heap.push o).objs.size = s.heap.objs.size + 1 := Heap.size_push ..
  show _ ∧ _
  rw [hz]
  have he : IsEnum ((s.heap.push o).push { cls := .type "enumerate", data := .fields #[.none, .bool false, .ref s.heap.objs.size, rawInt 0, .none, .none] }) (s.heap.objs.size + 1) s.heap.objs.size 0 .none := by
    have := Heap.get?_push_size (s.heap.push o) (o := { cls := .type "enumerate", data := .fields #[.none, .bool false, .ref s.heap.objs.size, rawInt 0, .none, .none] }) rfl
    rw [hz] at this; exact this
  refine ⟨⟨_, he, rfl⟩, h _ he (Heap.get?_push_of_some _ (Heap.get?_push_size _ B.free)) (by rw [Heap.size_push, hz]) fun b o x => Heap.get?_push_of_some _ (Heap.get?_push_of_some _ x)⟩
/-- the items of the tuple at a, each in a new pair -/
def Itu (K : PySem.W.Frag) (a : Addr) : It :=
  ⟨fun i H => ∃ (xs : List V) (x : V), SqT K H a xs ∧ xs[i]? = some x, fun i H v H' => ∃ T x, v = .ref T ∧ H T = none ∧ H' = upd H T (.tup [.int (i : Nat), x]) ∧ ∀ xs, SqT K H a xs → xs[i]? = some x, fun i H => ∃ xs : List V, SqT K H a xs ∧ xs.length = i⟩
theorem turn_enumT {P : Program} {w : World} {K : PySem.W.Frag} {elts : List Expr} {kk : Nat} {tpos : Pos} (a e it : Addr) :
    Turn P w K (.Tuple elts kk tpos) (Itu K a) [e, it] e (fun i h => (∃ old, IsEnum h e it ((i : Nat) : Int) old) ∧ h.IsTupleIter it a i ∧ e ≠ it) where
  mem := by simp
  obj := fun i h st b hb => by
    obtain ⟨⟨old, he⟩, ⟨o, ho, hc, hd⟩, _⟩ := st
    have e' : b = e ∨ b = it := by simpa using hb
    rcases e' with z | z
    · rw [z]; exact ⟨_, he, fun v q => nomatch q⟩
    · rw [z]; exact ⟨o, ho, fun v q => by rw [hd] at q; cases q⟩
  keep := fun i h h' st k => let ⟨⟨old, he⟩, hi, hne⟩ := st; ⟨⟨old, k e (by simp) _ he⟩, hi.at fun o q => k it (by simp) o q, hne⟩
  item := by
    intro X hP hw hK hc i pins s σ H E I hf st hg
    subst hP hw hK
    obtain ⟨⟨old, he⟩, hit, hne⟩ := st
    obtain ⟨xs, x, hq, hx⟩ := hg
    obtain ⟨its, rv, p, hz⟩ := I.tuple hq
    obtain ⟨u, hu, ru⟩ := rv.get hx
    have hel : e < s.heap.objs.size := Heap.lt_size he
    have hil : it < s.heap.objs.size := by obtain ⟨_, q, _⟩ := hit; exact Heap.lt_size q
    have hali : a ≠ it := fun z => by
      obtain ⟨o1, h1, h2, n1, h3⟩ := p
      obtain ⟨o2, g1, g2, g3⟩ := hit
      rw [z, g1] at h1
      cases h1
      rw [g2] at h2
      exact absurd h2 (by simp)
    have hale : a ≠ e := fun z => by
      obtain ⟨o1, h1, h2, n1, h3⟩ := p
      have he := he
      unfold IsEnum at he
      rw [z, he] at h1
      cases h1
      exact absurd h2 (by simp)
    have D := Draws.tuple (prog := X.prog) (w := X.w) (A := X.A.in1) (I.ok.hd hc) it a hali its.toArray
    have hlt : i < its.toArray.size := by
      have := (List.getElem?_eq_some_iff.mp hu).1
      simpa using this
    refine wpAny_pyNext_enum_itemD (St := fun i h => h.IsTupleIter it a i ∧ h.IsTuple a its.toArray) D he ⟨hit, p⟩ hlt hne (by simp [hne, hale.symm]) fun y h' tk hP ho hst hT hsz hk => ?_
    have hy : y = u := by
      have h1 : its.toArray[i]? = some y := hP
      rw [show its.toArray[i]? = some u by simpa using hu] at h1
      exact (Option.some.inj h1).symm
    subst hy
    refine ⟨_, rfl, wpAny_letOwnedTupleGo_enum (s := { s with heap := h', toks := tk + 1 }) ho fun h'' he' sb => ?_⟩
    have hT2 : h''.get? s.heap.objs.size = some { cls := .type "tuple", data := .seq #[.int i tk, y] } := (sb.2 _ (Nat.ne_of_gt hel)).trans hT
    have new : ObjOk X.prog X.w (upd H s.heap.objs.size (.tup [.int (i : Nat), x])) h'' s.heap.objs.size (.tup [.int (i : Nat), x]) :=
      ⟨by show 2 ≤ sizeLine; decide, [.int i tk, y], .cons ⟨_, rfl⟩ (.cons ru .nil), ⟨_, hT2, rfl, _, rfl⟩⟩
    have I1 : Inv X pins σ (upd H s.heap.objs.size (.tup [.int (i : Nat), x])) { s with heap := h'', toks := tk + 1 } :=
      I.turnedNew (ch := [e, it]) (fun b ob hb q => (sb.2 b (fun z => hb (by simp [z]))).trans (hk b ob (fun z => hb (by simp [z])) (fun z => hb (by simp [z])) q)) hf (Nat.le_refl _) new
    refine ⟨.ref s.heap.objs.size, _, I1, rfl, ⟨_, x, rfl, I.hok.fresh (Nat.le_refl _), rfl, fun ys hy => by rw [I.tuple_inj hy hq]; exact hx⟩, ⟨⟨y, ?_⟩, hst.1.at fun o q => (sb.2 it (Ne.symm hne)).trans q, hne⟩, fun b hb => ?_⟩
    · have e1 : ((i + 1 : Nat) : Int) = (i : Int) + 1 := by omega
      rw [e1]; exact he'
    · have hb' : b < s.heap.objs.size := by
        have e' : b = e ∨ b = it := by simpa using hb
        rcases e' with z | z
        · rw [z]; exact hel
        · rw [z]; exact hil
      rw [upd_ne (Nat.ne_of_lt hb')]
      exact (hf b hb).1
  done := by
    intro X hP hw hK hc i pins s σ H E I hf st hg
    subst hP hw hK
    obtain ⟨⟨old, he⟩, hit, hne⟩ := st
    obtain ⟨xs, hq, hx⟩ := hg
    obtain ⟨its, rv, p, hz⟩ := I.tuple hq
    obtain ⟨f0, f1, f2, f3, f4, f5⟩ := hf it (by simp)
    have hl := rv.length
    have hali : a ≠ it := fun z => by
      obtain ⟨o1, h1, h2, n1, h3⟩ := p
      obtain ⟨o2, g1, g2, g3⟩ := hit
      rw [z, g1] at h1
      cases h1
      rw [g2] at h2
      exact absurd h2 (by simp)
    have D := Draws.tuple (prog := X.prog) (w := X.w) (A := X.A.in1) (I.ok.hd hc) it a hali its.toArray
    have hi : its.toArray.size = i := by simp; omega
    exact wpAny_pyNext_enum_endD (St := fun i h => h.IsTupleIter it a i ∧ h.IsTuple a its.toArray) D he ⟨by rw [hi]; exact hit, p⟩ fun h' eb => ⟨rfl, I.turned (t' := s.toks) (fun b o hb q => eb b o hb q) f0 f1 f3 f4 f5⟩
  self := fun A i s Q E st h => let ⟨⟨_, he⟩, _⟩ := st; wpAny_pyIter_enum he h
/-- enumerate of a list or a tuple -/
def iEnumX (K : PySem.W.Frag) (ta : TA) : TI := fun σ H R => ta σ H fun vs H1 => ∃ a, vs = [.ref a] ∧ (((∃ xs, SqL K H1 a xs) ∧ R (Ite K a) H1) ∨ ((∃ xs, SqT K H1 a xs) ∧ R (Itu K a) H1))
theorem pi_enumX {X : Cx} {e : Expr} {ta : TA} {p pos tpos : Pos} {elts : List Expr} {kk : Nat} (hg : Gl X "enumerate") (hm : X.mg "enumerate" = none) (ha : PA X [e] ta) (hs : starEach [e] X.env = [(false, eval e X.env)] := by rfl) :
    PI X (.Tuple elts kk tpos) (.Call (.Name "enumerate" p) [e] [] pos) (iEnumX X.K ta) := by
  refine ⟨fun pins s σ H R I h => ?_⟩
  refine Call_ (ld_blt I hg hm boot_enumerate (PyProof.Rows.callWith_type1 (thn (ha.run pos pins s σ H _ I h) fun us s1 ⟨vs, H1, I1, r1, q1⟩ => ?_) hs rfl))
  obtain ⟨a, ex, q⟩ := q1
  subst ex
  cases r1 with
  | cons r rr =>
    cases rr
    cases r
    rcases q with ⟨⟨xs, hq⟩, q⟩ | ⟨⟨xs, hq⟩, q⟩
    · obtain ⟨its, rv, p', hz⟩ := I1.list hq
      refine call_enumerate_list p'.isList fun h' he hit hsz hk => wpAny_pyIter_enum he ?_
      have I2 : Inv X pins σ H1 { s1 with heap := h' } := I1.kept (t' := s1.toks) hk
      refine ⟨s1.heap.objs.size + 1, [s1.heap.objs.size + 1, s1.heap.objs.size], _, _, H1, rfl, I2, turn_enum a (s1.heap.objs.size + 1) s1.heap.objs.size, ⟨⟨.none, he⟩, hit, Nat.succ_ne_self _⟩, fun b hb => ?_, q⟩
      have e' : b = s1.heap.objs.size + 1 ∨ b = s1.heap.objs.size := by simpa using hb
      have hle : s1.heap.objs.size ≤ b := by
        rcases e' with z | z
        · rw [z]; exact Nat.le_add_right _ _
        · rw [z]; exact Nat.le_refl _
      exact I1.fpOk hle (I1.hok.fresh hle)
    · obtain ⟨its, rv, p', hz⟩ := I1.tuple hq
      refine enum_begins1 (begins_tuple a its.toArray) p' fun h' he hit hsz hk => wpAny_pyIter_enum he ?_
      have I2 : Inv X pins σ H1 { s1 with heap := h' } := I1.kept (t' := s1.toks) hk
      refine ⟨s1.heap.objs.size + 1, [s1.heap.objs.size + 1, s1.heap.objs.size], _, _, H1, rfl, I2, turn_enumT a (s1.heap.objs.size + 1) s1.heap.objs.size, ⟨⟨.none, he⟩, ⟨_, hit, rfl, rfl⟩, Nat.succ_ne_self _⟩, fun b hb => ?_, q⟩
      have e' : b = s1.heap.objs.size + 1 ∨ b = s1.heap.objs.size := by simpa using hb
      have hle : s1.heap.objs.size ≤ b := by
        rcases e' with z | z
        · rw [z]; exact Nat.le_add_right _ _
        · rw [z]; exact Nat.le_refl _
      exact I1.fpOk hle (I1.hok.fresh hle)
/-! ### a list or a tuple walked -/
theorem pi_seq {X : Cx} {tg l : Expr} {tl : TE} (hl : PE X l tl) : PI X tg l (iSeq X.K tl) := by
  refine ⟨fun pins s σ H R I h => ?_⟩
  refine thn (hl.run pins s σ H _ I h) fun v s1 ⟨x, H1, I1, r1, q1⟩ => ?_
  obtain ⟨a, e, q⟩ := q1
  subst e
  cases r1
  rcases q with ⟨⟨xs, hq⟩, q⟩ | ⟨⟨xs, hq⟩, q⟩
  · obtain ⟨its, rv, p, hz⟩ := I1.list hq
    refine wpAny_pyIter_list p.isList ?_
    refine ⟨s1.heap.objs.size, [s1.heap.objs.size], _, _, H1, rfl, I1.kept (t' := s1.toks) fun b o e => Heap.get?_push_of_some _ e, turn_list a _, ⟨_, Heap.get?_push_size _ rfl, rfl, rfl⟩, fun b hb => ?_, q⟩
    have e : b = s1.heap.objs.size := by simpa using hb
    subst e
    exact I1.fpOk (Nat.le_refl _) (I1.hok.fresh (Nat.le_refl _))
  · obtain ⟨its, rv, p, hz⟩ := I1.tuple hq
    refine wpAny_pyIter_tuple (show s1.heap.IsTuple a its.toArray from p) ?_
    refine ⟨s1.heap.objs.size, [s1.heap.objs.size], _, _, H1, rfl, I1.kept (t' := s1.toks) fun b o e => Heap.get?_push_of_some _ e, turn_tuple a _, ⟨_, Heap.get?_push_size _ rfl, rfl, rfl⟩, fun b hb => ?_, q⟩
    have e : b = s1.heap.objs.size := by simpa using hb
    subst e
    exact I1.fpOk (Nat.le_refl _) (I1.hok.fresh (Nat.le_refl _))

section
variable {X : Cx}
/-! ### + -/
def rCatS (K : PySem.W.Frag) : R2 := fun x y H Q => ∃ l b xs zs, x = .ref l ∧ y = .ref b ∧ SqL K H l xs ∧ SqL K H b zs ∧ xs.length + zs.length ≤ sizeLine ∧ ∀ p, H p = none → Q (.ref p) (upd H p (.lst (xs ++ zs)))
theorem op_catS : OpR X (binaryOp .Add) (rCatS X.K) := by
  intro pins s σ H x y v u Q I rx ry h
  obtain ⟨l, b, xs, zs, rfl, rfl, hH, hB, hz, q⟩ := h
  cases rx
  cases ry
  obtain ⟨its, r, p1, z1⟩ := I.list hH
  obtain ⟨its2, r2, p2, z2⟩ := I.list hB
  obtain ⟨⟨cls, dd, data, sl⟩, n, ho, hc, hdd, hd⟩ := p1
  obtain ⟨⟨cls2, dd2, data2, sl2⟩, n2, ho2, hc2, hdd2, hd2⟩ := p2
  simp only at hc hd hc2 hd2 hdd hdd2
  subst hc hd hc2 hd2 hdd hdd2
  have e : its.toArray ++ its2.toArray = (its ++ its2).toArray := by simp
  have hl1 := r.length
  have hl2 := r2.length
  refine concat_meets ⟨_, ho, rfl⟩ ⟨_, ho2, rfl⟩ noFill_list_add seq_list_add PySem.F.slot_list_add PySem.F.entry_list_add (PySem.F.args_list_add_2 _ _) (list_addW l b its.toArray its2.toArray n n2 none none sl sl2 (by simp only [List.size_toArray]; omega)) ⟨ho, ho2, ?_⟩
  rw [e]
  exact ⟨.ref _, _, I.lnew (t' := s.toks) (r.append r2) (by rw [List.length_append]; omega), rfl, q _ I.fresh⟩
def rAddX (K : PySem.W.Frag) : R2 := fun x y H Q => rI0 (fun i j => .int (i + j)) x y H Q ∨ (fun x y H Q => rCatS K x y H Q ∨ rCatA K x y H Q) x y H Q
theorem op_addX : OpR X (binaryOp .Add) (rAddX X.K) := op_add.or (op_catS.or op_catA)
/-! ### *, // -/
def CMulX (i j : Int) : Prop := CMul i j ∨ CMulW i j
theorem op_mulI : OpR X (binaryOp .Mult) (rI CMulX fun i j => .int (i * j)) := opI fun _ _ _ _ _ _ _ hc q => mul_int q (hc.elim CMul.ok CMulW.ok)
def rMulX : R2 := fun x y H Q => rI CMulX (fun i j => .int (i * j)) x y H Q ∨ rRep x y H Q
theorem op_mulX : OpR X (binaryOp .Mult) rMulX := op_mulI.or op_rep
/-! ### ==, !=, in -/
def rEqX (K : PySem.W.Frag) : R2 := fun x y H Q => rEq x y H Q ∨ rEqD K x y H Q
def rNeX (K : PySem.W.Frag) : R2 := fun x y H Q => rNe x y H Q ∨ rNeD K x y H Q
theorem op_eqX (hu : X.A.units + 64 < cLine) : OpR X (compareOp .Eq) (rEqX X.K) := op_eq.or (op_eqD hu)
theorem op_neX (hu : X.A.units + 64 < cLine) : OpR X (compareOp .NotEq) (rNeX X.K) := op_ne.or (op_neD hu)
def rNotInT (K : PySem.W.Frag) : R2 := fun x y H Q => ∃ d ds, Dp K H x d ∧ Dp K H y (.tuple ds) ∧ SeqAt.shaped d = true ∧ SeqAt.shaped (.tuple ds) = true ∧ Q (.bl (!ds.any fun z => PyData.eqv z d)) H
theorem op_notInT (hu : X.A.units + 65 < cLine) : OpR X (compareOp .NotIn) (rNotInT X.K) := by
  intro pins s σ H x y v u Q I rx ry h
  obtain ⟨d, ds, hd, he, sd, se, q⟩ := h
  obtain ⟨as, r1⟩ := Dp.reads I d x v hd rx
  obtain ⟨bs, r2⟩ := Dp.reads I (.tuple ds) y u he ry
  have hl : PyData.canLayAll0 ds = true := by
    have h := SeqAt.canLay_of_shaped se
    simpa [PyData.canLay0] using h
  exact SeqAt.notIn_tuple_reads r2 r1 hl (SeqAt.canLay_of_shaped sd) (room_in_shaped sd hu) ⟨.bl _, H, I, rfl, q⟩
def rNotInX (K : PySem.W.Frag) : R2 := fun x y H Q => rIn K true x y H Q ∨ rNotInT K x y H Q
theorem op_notInX (hu : X.A.units + 65 < cLine) : OpR X (compareOp .NotIn) (rNotInX X.K) := op_notIn_seq.or (op_notInT hu)
/-! ### slices -/
def rSlX (K : PySem.W.Frag) : V → Option Int → Option Int → Hp → VK → Prop := fun x lo hi H Q => rSlL K x lo hi H Q ∨ rSlA K x lo hi H Q
theorem sl_X : SlR X (rSlX X.K) := sl_list.or sl_tupA
end
end Qr

/-! #### Qg -/
set_option maxHeartbeats 2000000
/-! More rules by values: short names for the readings of built-ins; == by an own __eq__; a list's unpacking. -/
namespace Qr
open PySem PySem.Spec PyProof.Rows L2
theorem room65 {j : Nat} {A : Around} (r : Room j A) : A.units + 65 < cLine := by have := r.un; omega
def rListA (K : PySem.W.Frag) : List V → Hp → VK → Prop := fun xs H Q => ∃ p ys, xs = [.ref p] ∧ (SqL K H p ys ∨ SqT K H p ys) ∧ ∀ l, H l = none → Q (.ref l) (upd H l (.lst ys))
def rMin2 : List V → Hp → VK → Prop := fun xs H Q => ∃ i j, xs = [.int i, .int j] ∧ Q (.int (if j < i then j else i)) H
def rAbs : List V → Hp → VK → Prop := fun xs H Q => ∃ i, xs = [.int i] ∧ Q (.int (if i < 0 then -i else i)) H
def rInt1 : List V → Hp → VK → Prop := fun xs H Q => (∃ i, xs = [.int i] ∧ Q (.int i) H) ∨ ∃ k, xs = [.bl k] ∧ Q (.int (if k then 1 else 0)) H
def rDivmod : List V → Hp → VK → Prop := fun xs H Q => ∃ i j, xs = [.int i, .int j] ∧ CDiv i j ∧ ∀ p, H p = none → Q (.ref p) (upd H p (.tup [.int (i / j), .int (i % j)]))
end Qr

/-! #### Qh -/
set_option maxHeartbeats 2000000
/-! What the operations do over data. -/
namespace Qr
open PySem L2

/-! ### data that == compares as a whole -/
mutual
inductive PD : D → PyData → Prop
  | non : PD .non .none
  | bl (b : Bool) : PD (.bl b) (.bool b)
  | int (i : Int) : PD (.int i) (.int i)
  | str (s : Str) : PD (.str s) (.str s)
  | lst {ds : List D} {ps : List PyData} (h : PDs ds ps) : PD (.lst ds) (.list ps)
  | tup {ds : List D} {ps : List PyData} (h : PDs ds ps) : PD (.tup ds) (.tuple ps)
inductive PDs : List D → List PyData → Prop
  | nil : PDs [] []
  | cons {d : D} {p : PyData} {ds : List D} {ps : List PyData} (h : PD d p) (t : PDs ds ps) : PDs (d :: ds) (p :: ps)
end
section
variable {K : PySem.W.Frag} {F H : Hp}
mutual
theorem PD.dp (e : Ex F H) : ∀ {d : D} {p : PyData} (v : V), PD d p → Rep K F v d → Dp K H v p
  | _, _, _, .non, r => by cases r; exact .non
  | _, _, _, .bl b, r => by cases r; exact .bl b
  | _, _, _, .int b, r => by cases r; exact .int b
  | _, _, _, .str b, r => by cases r; exact .str b
  | _, _, _, .lst q, r => by
    cases r with
    | lst h r => exact .lst (.inl (.inl (e _ _ h))) (PDs.dp e _ q r)
  | _, _, _, .tup q, r => by
    cases r with
    | tup h r => exact .tup (SqT.of (e _ _ h)) (PDs.dp e _ q r)
theorem PDs.dp (e : Ex F H) : ∀ {ds : List D} {ps : List PyData} (vs : List V), PDs ds ps → Reps K F vs ds → DpAll K H vs ps
  | _, _, _, .nil, r => by cases r; exact .nil
  | _, _, _, .cons q s, r => by
    cases r with
    | cons r t => exact .cons (PD.dp e _ q r) (PDs.dp e _ s t)
end
theorem Rep.dp (e : Ex F H) {v : V} {d : D} {p : PyData} (r : Rep K F v d) (q : PD d p) : Dp K H v p := PD.dp e v q r
theorem Reps.dp (e : Ex F H) {vs : List V} {ds : List D} {ps : List PyData} (r : Reps K F vs ds) (q : PDs ds ps) : DpAll K H vs ps := PDs.dp e vs q r
end
/-- a type whose values stand as data, told apart by == as they are -/
class Enc (α : Type) [DecidableEq α] where
  en : α → D
  pd : α → PyData
  ok : ∀ a, PD (en a) (pd a)
  lay : ∀ a, (pd a).canLay0 = true
  dep : Nat
  dle : ∀ a, (pd a).depth ≤ dep
  eqv : ∀ a b, PyData.eqv (pd a) (pd b) = decide (a = b)
open Enc
instance : Enc Int where
  en := .int
  pd := .int
  ok := .int
  lay := fun _ => rfl
  dep := 0
  dle := fun _ => Nat.le_refl _
  eqv := fun a b => by simp [PyData.eqv, Bool.beq_eq_decide_eq]
instance {α β : Type} [DecidableEq α] [DecidableEq β] [Enc α] [Enc β] : Enc (α × β) where
  en := fun p => .tup [en p.1, en p.2]
  pd := fun p => .tuple [pd p.1, pd p.2]
  ok := fun p => .tup (.cons (ok _) (.cons (ok _) .nil))
  lay := fun p => by simp [PyData.canLay0, PyData.canLayAll0, lay]
  dep := max (dep α) (dep β) + 1
  dle := fun p => by
    have h1 := dle p.1
    have h2 := dle p.2
    simp [PyData.depth, PyData.depthAll]
    omega
  eqv := fun p q => by
    simp only [PyData.eqv, PyData.eqvAll, eqv, Bool.and_true]
    obtain ⟨p1, p2⟩ := p
    obtain ⟨q1, q2⟩ := q
    simp only [Prod.mk.injEq]
    rw [Bool.decide_and]
/-- three in a tuple -/
structure T3 (α β γ : Type) where
  a : α
  b : β
  c : γ
  deriving DecidableEq
instance {α β γ : Type} [DecidableEq α] [DecidableEq β] [DecidableEq γ] [Enc α] [Enc β] [Enc γ] : Enc (T3 α β γ) where
  en := fun p => .tup [en p.a, en p.b, en p.c]
  pd := fun p => .tuple [pd p.a, pd p.b, pd p.c]
  ok := fun p => .tup (.cons (ok _) (.cons (ok _) (.cons (ok _) .nil)))
  lay := fun p => by simp [PyData.canLay0, PyData.canLayAll0, lay]
  dep := max (dep α) (max (dep β) (dep γ)) + 1
  dle := fun p => by
    have h1 := dle p.a
    have h2 := dle p.b
    have h3 := dle p.c
    simp [PyData.depth, PyData.depthAll]
    omega
  eqv := fun p q => by
    simp only [PyData.eqv, PyData.eqvAll, eqv, Bool.and_true]
    obtain ⟨p1, p2, p3⟩ := p
    obtain ⟨q1, q2, q3⟩ := q
    simp only [T3.mk.injEq]
    rw [Bool.decide_and, Bool.decide_and]
section
variable {α : Type} [DecidableEq α] [Enc α]
theorem pds_map : ∀ xs : List α, PDs (xs.map en) (xs.map pd)
  | [] => .nil
  | x :: xs => .cons (ok x) (pds_map xs)
theorem layAll : ∀ xs : List α, PyData.canLayAll0 (xs.map pd) = true
  | [] => rfl
  | x :: xs => by simp [PyData.canLayAll0, lay, layAll xs]
theorem depAll : ∀ xs : List α, PyData.depthAll (xs.map pd) ≤ dep α
  | [] => Nat.zero_le _
  | x :: xs => by
    have h1 := dle x
    have h2 := depAll xs
    simp [PyData.depthAll]
    omega
theorem eqvAll_map : ∀ xs ys : List α, PyData.eqvAll (xs.map pd) (ys.map pd) = decide (xs = ys)
  | [], [] => rfl
  | [], _ :: _ => by simp [PyData.eqvAll]
  | _ :: _, [] => by simp [PyData.eqvAll]
  | x :: xs, y :: ys => by
    simp only [List.map_cons, PyData.eqvAll, eqv, eqvAll_map xs ys, List.cons.injEq]
    rw [Bool.decide_and]
end
instance {α : Type} [DecidableEq α] [Enc α] : Enc (List α) where
  en := fun xs => .lst (xs.map en)
  pd := fun xs => .list (xs.map pd)
  ok := fun xs => .lst (pds_map xs)
  lay := fun xs => by simp only [PyData.canLay0]; exact layAll xs
  dep := dep α + 1
  dle := fun xs => by
    have h := depAll xs
    simp only [PyData.depth]
    omega
  eqv := fun xs ys => by simp only [PyData.eqv]; exact eqvAll_map xs ys
/-- a tuple of any length -/
structure Tu (α : Type) where
  l : List α
  deriving DecidableEq
instance {α : Type} [DecidableEq α] [Enc α] : Enc (Tu α) where
  en := fun xs => .tup (xs.l.map en)
  pd := fun xs => .tuple (xs.l.map pd)
  ok := fun xs => .tup (pds_map xs.l)
  lay := fun xs => by simp only [PyData.canLay0]; exact layAll xs.l
  dep := dep α + 1
  dle := fun xs => by
    have h := depAll xs.l
    simp only [PyData.depth]
    omega
  eqv := fun xs ys => by
    simp only [PyData.eqv]
    rw [eqvAll_map xs.l ys.l]
    obtain ⟨x⟩ := xs
    obtain ⟨y⟩ := ys
    simp
/-- the kinds of members -/
inductive Kd where
  | last | first | limit | delay
  deriving DecidableEq
def Kd.str : Kd → Str
  | .last => "last" | .first => "first" | .limit => "limit" | .delay => "delay"
theorem kd_ne : ∀ a b : Kd, (a.str == b.str) = decide (a = b) := by
  intro a b
  cases a <;> cases b <;> decide +kernel
instance : Enc Kd where
  en := fun k => .str k.str
  pd := fun k => .str k.str
  ok := fun k => .str _
  lay := fun k => by cases k <;> decide +kernel
  dep := 0
  dle := fun _ => Nat.le_refl _
  eqv := fun a b => by simp only [PyData.eqv]; exact kd_ne a b

section
variable {K : PySem.W.Frag} {M : Mem} {R : D → Mem → Prop} {x y : D}
theorem shaped_of {p : PyData} (h1 : p.canLay0 = true) (h2 : p.depth ≤ 64) : SeqAt.shaped p = true := by
  unfold SeqAt.shaped
  rw [h1, decide_eq_true h2]
  rfl
theorem o2_eqP {p q : PyData} (h1 : PD x p) (h2 : PD y q) (s1 : SeqAt.shaped p = true) (s2 : SeqAt.shaped q = true) (k : R (.bl (PyData.eqv p q)) M) : O2 K (rEqX K) x y M R :=
  o2_or2 fun F0 H0 F H v w W r1 r2 Q z => ⟨p, q, r1.dp W.ex h1, r2.dp W.ex h2, s1, s2, z _ _ M F H (Ex.refl F) W (.bl _) k⟩
theorem o2_neP {p q : PyData} (h1 : PD x p) (h2 : PD y q) (s1 : SeqAt.shaped p = true) (s2 : SeqAt.shaped q = true) (k : R (.bl (!PyData.eqv p q)) M) : O2 K (rNeX K) x y M R :=
  o2_or2 fun F0 H0 F H v w W r1 r2 Q z => ⟨p, q, r1.dp W.ex h1, r2.dp W.ex h2, s1, s2, z _ _ M F H (Ex.refl F) W (.bl _) k⟩
section
variable {α : Type} [DecidableEq α] [Enc α]
theorem o2_eqE (a b : α) (hx : x = en a) (hy : y = en b) (k : R (.bl (decide (a = b))) M) (hd : dep α ≤ 64 := by decide) : O2 K (rEqX K) x y M R := by
  subst hx; subst hy
  exact o2_eqP (ok a) (ok b) (shaped_of (lay a) (Nat.le_trans (dle a) hd)) (shaped_of (lay b) (Nat.le_trans (dle b) hd)) (by rw [eqv]; exact k)
theorem o2_neE (a b : α) (hx : x = en a) (hy : y = en b) (k : R (.bl (!decide (a = b))) M) (hd : dep α ≤ 64 := by decide) : O2 K (rNeX K) x y M R := by
  subst hx; subst hy
  exact o2_neP (ok a) (ok b) (shaped_of (lay a) (Nat.le_trans (dle a) hd)) (shaped_of (lay b) (Nat.le_trans (dle b) hd)) (by rw [eqv]; exact k)
theorem any_eqv (a : α) : ∀ xs : List α, ((xs.map pd).any fun z => PyData.eqv z (pd a)) = decide (a ∈ xs)
  | [] => rfl
  | x :: xs => by
    rw [List.map_cons, List.any_cons, any_eqv a xs, eqv]
    by_cases h : x = a
    · subst h; simp
    · have h' : ¬ a = x := fun e => h e.symm
      simp [h, h']
theorem o2_notInTu (a : α) (xs : List α) (hx : x = en a) (hy : y = .tup (xs.map en)) (k : R (.bl (!decide (a ∈ xs))) M) (hd : dep α + 1 ≤ 64 := by decide) : O2 K (rNotInX K) x y M R := by
  subst hx; subst hy
  refine o2_or2 fun F0 H0 F H v w W r1 r2 Q z => ⟨pd a, xs.map pd, r1.dp W.ex (ok a), r2.dp W.ex (.tup (pds_map xs)), shaped_of (lay a) (Nat.le_trans (dle a) (by omega)), shaped_of (by simp only [PyData.canLay0]; exact layAll xs) ?_, ?_⟩
  · have h := depAll xs
    simp only [PyData.depth]
    omega
  · rw [any_eqv]
    exact z _ _ M F H (Ex.refl F) W (.bl _) k
end
/-- x == [] of a list that is read, whatever it holds -/
theorem Items.pd {F0 H0 F H : Hp} {ds : List D} {ps : List PyData} {v : V} (it : Items M x true ds) (h : PDs ds ps) (W : Wok K F0 H0 F M H) (r : Rep K F v x) : Dp K H v (.list ps) := by
  obtain ⟨a, vs, rfl, r, hs⟩ := it.read W r
  exact .lst hs (r.dp W.ex h)
theorem eqv_nil (ps : List PyData) : PyData.eqv (.list ps) (.list []) = ps.isEmpty := by
  cases ps <;> simp [PyData.eqv, PyData.eqvAll]
theorem PDs.isEmpty {ds : List D} {ps : List PyData} (h : PDs ds ps) : ds.isEmpty = ps.isEmpty := by cases h <;> rfl
theorem o2_eqNil {ds : List D} {ps : List PyData} (it : Items M x true ds) (h : PDs ds ps) (hl : PyData.canLayAll0 ps = true) (hd : PyData.depthAll ps ≤ 60) (k : R (.bl ds.isEmpty) M) : O2 K (rEqX K) x (.lst []) M R :=
  o2_or2 fun F0 H0 F H v w W r1 r2 Q z => ⟨.list ps, .list [], it.pd h W r1, r2.dp W.ex (.lst .nil), shaped_of (by simp only [PyData.canLay0]; exact hl) (by simp only [PyData.depth]; omega), by decide, z _ _ M F H (Ex.refl F) W (by rw [eqv_nil, ← h.isEmpty]; exact .bl _) k⟩
theorem o2_neNil {ds : List D} {ps : List PyData} (it : Items M x true ds) (h : PDs ds ps) (hl : PyData.canLayAll0 ps = true) (hd : PyData.depthAll ps ≤ 60) (k : R (.bl (!ds.isEmpty)) M) : O2 K (rNeX K) x (.lst []) M R :=
  o2_or2 fun F0 H0 F H v w W r1 r2 Q z => ⟨.list ps, .list [], it.pd h W r1, r2.dp W.ex (.lst .nil), shaped_of (by simp only [PyData.canLay0]; exact hl) (by simp only [PyData.depth]; omega), by decide, z _ _ M F H (Ex.refl F) W (by rw [eqv_nil, ← h.isEmpty]; exact .bl _) k⟩
theorem o2_eqNilE {α : Type} [DecidableEq α] [Enc α] (xs : List α) (it : Items M x true (xs.map en)) (k : R (.bl xs.isEmpty) M) (hd : dep α ≤ 60 := by decide) : O2 K (rEqX K) x (.lst []) M R :=
  o2_eqNil it (pds_map xs) (layAll xs) (Nat.le_trans (depAll xs) hd) (by rw [List.isEmpty_map]; exact k)
theorem o2_neNilE {α : Type} [DecidableEq α] [Enc α] (xs : List α) (it : Items M x true (xs.map en)) (k : R (.bl (!xs.isEmpty)) M) (hd : dep α ≤ 60 := by decide) : O2 K (rNeX K) x (.lst []) M R :=
  o2_neNil it (pds_map xs) (layAll xs) (Nat.le_trans (depAll xs) hd) (by rw [List.isEmpty_map]; exact k)
/-! ### ints, texts -/
theorem o2_eqI {i j : Int} (k : R (.bl (decide (i = j))) M) : O2 K (rEqX K) (.int i) (.int j) M R := o2_or1 (o2_eq rfl rfl rfl (by
  have e : decide (V.int i = V.int j) = decide (i = j) := by simp
  rw [e]; exact k))
theorem o2_neI {i j : Int} (k : R (.bl (!decide (i = j))) M) : O2 K (rNeX K) (.int i) (.int j) M R := o2_or1 (o2_ne rfl rfl rfl (by
  have e : decide (V.int i = V.int j) = decide (i = j) := by simp
  rw [e]; exact k))
theorem o2_eqB {i j : Bool} (k : R (.bl (decide (i = j))) M) : O2 K (rEqX K) (.bl i) (.bl j) M R := o2_or1 (o2_eq rfl rfl rfl (by
  have e : decide (V.bl i = V.bl j) = decide (i = j) := by simp
  rw [e]; exact k))
theorem o2_neB {i j : Bool} (k : R (.bl (!decide (i = j))) M) : O2 K (rNeX K) (.bl i) (.bl j) M R := o2_or1 (o2_ne rfl rfl rfl (by
  have e : decide (V.bl i = V.bl j) = decide (i = j) := by simp
  rw [e]; exact k))
theorem dec_kd (a b : Kd) : decide (V.str a.str = V.str b.str) = decide (a = b) := by
  have e := kd_ne a b
  have e2 : decide (V.str a.str = V.str b.str) = (a.str == b.str) := dec_str
  rw [e2, e]
theorem o2_eqK {s t : Str} (a b : Kd) (hs : s = a.str) (ht : t = b.str) (k : R (.bl (decide (a = b))) M) : O2 K (rEqX K) (.str s) (.str t) M R := by
  subst hs; subst ht
  exact o2_or1 (o2_eq rfl rfl rfl (by rw [dec_kd]; exact k))
theorem o2_neK {s t : Str} (a b : Kd) (hs : s = a.str) (ht : t = b.str) (k : R (.bl (!decide (a = b))) M) : O2 K (rNeX K) (.str s) (.str t) M R := by
  subst hs; subst ht
  exact o2_or1 (o2_ne rfl rfl rfl (by rw [dec_kd]; exact k))
theorem o2_addI {i j : Int} (k : R (.int (i + j)) M) : O2 K (rAddX K) (.int i) (.int j) M R := o2_or1 (o2_I0 (g' := fun i j => .int (i + j)) (fun _ => .int _) k)
theorem o2_subI {i j : Int} (k : R (.int (i - j)) M) : O2 K (rI0 fun i j => .int (i - j)) (.int i) (.int j) M R := o2_I0 (g' := fun i j => .int (i - j)) (fun _ => .int _) k
theorem o2_mulI {i j : Int} (c : CMulX i j) (k : R (.int (i * j)) M) : O2 K rMulX (.int i) (.int j) M R := o2_or1 (o2_I (g' := fun i j => .int (i * j)) (fun _ => .int _) c k)
theorem o2_fdivI {i j : Int} (c : CDivW i j) (k : R (.int (i / j)) M) : O2 K (rI CDivW fun i j => .int (i / j)) (.int i) (.int j) M R := o2_I (g' := fun i j => .int (i / j)) (fun _ => .int _) c k
theorem o2_modI {i j : Int} (c : 0 < j) (k : R (.int (i % j)) M) : O2 K (rI (fun _ j => 0 < j) fun i j => .int (i % j)) (.int i) (.int j) M R := o2_I (g' := fun i j => .int (i % j)) (fun _ => .int _) c k
theorem o2_powI {i j : Int} (c : CPow i j) (k : R (.int (i ^ j.toNat)) M) : O2 K (rI CPow fun i j => .int (i ^ j.toNat)) (.int i) (.int j) M R := o2_I (g' := fun i j => .int (i ^ j.toNat)) (fun _ => .int _) c k
theorem o2_shlI {i j : Int} (c : CPow i j) (k : R (.int (i * 2 ^ j.toNat)) M) : O2 K (rI CPow fun i j => .int (i * 2 ^ j.toNat)) (.int i) (.int j) M R := o2_I (g' := fun i j => .int (i * 2 ^ j.toNat)) (fun _ => .int _) c k
theorem o2_ltI {i j : Int} (k : R (.bl (decide (i < j))) M) : O2 K (rI0 fun i j => .bl (decide (i < j))) (.int i) (.int j) M R := o2_I0 (g' := fun i j => .bl (decide (i < j))) (fun _ => .bl _) k
theorem o2_leI {i j : Int} (k : R (.bl (decide (i ≤ j))) M) : O2 K (rI0 fun i j => .bl (decide (i ≤ j))) (.int i) (.int j) M R := o2_I0 (g' := fun i j => .bl (decide (i ≤ j))) (fun _ => .bl _) k
theorem o2_gtI {i j : Int} (k : R (.bl (decide (j < i))) M) : O2 K (rI0 fun i j => .bl (decide (j < i))) (.int i) (.int j) M R := o2_I0 (g' := fun i j => .bl (decide (j < i))) (fun _ => .bl _) k
theorem o2_geI {i j : Int} (k : R (.bl (decide (j ≤ i))) M) : O2 K (rI0 fun i j => .bl (decide (j ≤ i))) (.int i) (.int j) M R := o2_I0 (g' := fun i j => .bl (decide (j ≤ i))) (fun _ => .bl _) k
theorem CMulX.small {i j : Int} (h : -(2 ^ 64) < i ∧ i < 2 ^ 64) : CMulX i j := .inl (.inl h)
theorem CMulX.small2 {i j : Int} (h : -(2 ^ 64) < j ∧ j < 2 ^ 64) : CMulX i j := .inl (.inr h)
/-! ### lists and tuples -/
theorem Items.long {F0 H0 F H : Hp} {x : D} {l : Bool} {ds : List D} {v : V} (it : Items M x l ds) (W : Wok K F0 H0 F M H) (r : Rep K F v x) : ∃ a vs, v = .ref a ∧ Reps K F vs ds ∧ (if l = true then SqL K H a vs else SqT K H a vs) := it.read W r
theorem o2_addL {xs ys : List D} (h1 : Items M x true xs) (h2 : Items M y true ys) (hl : xs.length + ys.length ≤ 100000) (k : R (.lst (xs ++ ys)) M) : O2 K (rAddX K) x y M R := o2_or2 (o2_or1 fun F0 H0 F H v w W r1 r2 Q z => by
  obtain ⟨a, vs, rfl, q1, s1⟩ := h1.read W r1
  obtain ⟨b, ws, rfl, q2, s2⟩ := h2.read W r2
  refine ⟨a, b, vs, ws, rfl, rfl, s1, s2, by rw [q1.length, q2.length]; exact Nat.le_trans hl (by decide), fun p hp => ?_⟩
  obtain ⟨W2, e2⟩ := W.new hp (.lst (vs ++ ws))
  exact z _ _ _ _ _ e2 W2 (.lst upd_same ((q1.mono e2).append (q2.mono e2))) k)
theorem o2_addT {xs ys : List D} (hl : xs.length + ys.length ≤ 100000) (k : R (.tup (xs ++ ys)) M) : O2 K (rAddX K) (.tup xs) (.tup ys) M R := o2_or2 (o2_or2 fun F0 H0 F H v w W r1 r2 Q z => by
  cases r1 with
  | tup h1 q1 =>
    cases r2 with
    | tup h2 q2 =>
      refine ⟨_, _, _, _, rfl, rfl, SqT.of (W.ex _ _ h1), SqT.of (W.ex _ _ h2), by rw [q1.length, q2.length]; exact Nat.le_trans hl (by decide), fun e => ?_, fun _ e => ?_, fun _ _ p hp => ?_⟩
      · subst e
        cases q1
        exact z _ _ _ _ _ (Ex.refl F) W (.tup h2 q2) k
      · subst e
        cases q2
        rw [List.append_nil] at k
        exact z _ _ _ _ _ (Ex.refl F) W (.tup h1 q1) k
      · obtain ⟨W2, e2⟩ := W.new hp (.tup _)
        exact z _ _ _ _ _ e2 W2 (.tup upd_same ((q1.mono e2).append (q2.mono e2))) k)
theorem o2_mulL {xs : List D} {n : Int} (h0 : 0 ≤ n) (hl : xs.length * n.toNat ≤ 100000) (hn : n ≤ 1000000) (k : R (.lst (List.replicate n.toNat xs).flatten) M) : O2 K rMulX (.lst xs) (.int n) M R := o2_or2 fun F0 H0 F H v w W r1 r2 Q z => by
  cases r2
  cases r1 with
  | lst h1 q1 =>
    refine ⟨_, n, _, rfl, rfl, W.ex _ _ h1, by omega, by omega, by rw [q1.length]; exact Nat.le_trans hl (by decide), fun p hp => ?_⟩
    obtain ⟨W2, e2⟩ := W.new hp (.lst _)
    exact z _ _ _ _ _ e2 W2 (.lst upd_same ((q1.mono e2).rep _)) k
/-- x in (ints) -/
theorem inV_ints (i : Int) : ∀ ns : List Int, inV (.int i) (ns.map V.int) = decide (i ∈ ns)
  | [] => rfl
  | n :: ns => by
    have e : inV (.int i) ((n :: ns).map V.int) = (eqV (.int n) (.int i) || inV (.int i) (ns.map V.int)) := rfl
    rw [e, inV_ints i ns]
    have e2 : eqV (.int n) (.int i) = decide (n = i) := by
      show (n == i) = _
      exact Bool.beq_eq_decide_eq _ _
    rw [e2]
    by_cases h : n = i
    · subst h; simp
    · have h' : ¬ i = n := fun z => h z.symm
      simp [h, h']
theorem flat_ints : ∀ ns : List Int, (ns.map V.int).all flatV = true
  | [] => rfl
  | _ :: ns => by rw [List.map_cons, List.all_cons, flat_ints ns]; rfl
theorem o2_inI {i : Int} {ns : List Int} {l : Bool} (it : Items M y l (ns.map D.int)) (k : R (.bl (decide (i ∈ ns))) M) : O2 K (rIn K false) (.int i) y M R := fun F0 H0 F H v w W r1 r2 Q z => by
  obtain ⟨a, vs, rfl, q, s⟩ := it.read W r2
  cases r1
  have e := q.ints
  subst e
  refine ⟨a, _, rfl, ?_, rfl, flat_ints ns, ?_⟩
  · cases l with
    | true => exact .inl s
    | false => exact .inr s
  · show Q (.bl (inV (.int i) (ns.map V.int))) H
    rw [inV_ints]
    exact z _ _ M F H (Ex.refl F) W (.bl _) k
theorem o2_notInI {i : Int} {ns : List Int} {l : Bool} (it : Items M y l (ns.map D.int)) (k : R (.bl (!decide (i ∈ ns))) M) : O2 K (rNotInX K) (.int i) y M R := o2_or1 fun F0 H0 F H v w W r1 r2 Q z => by
  obtain ⟨a, vs, rfl, q, s⟩ := it.read W r2
  cases r1
  have e := q.ints
  subst e
  refine ⟨a, _, rfl, ?_, rfl, flat_ints ns, ?_⟩
  · cases l with
    | true => exact .inl s
    | false => exact .inr s
  · show Q (.bl (!inV (.int i) (ns.map V.int))) H
    rw [inV_ints]
    exact z _ _ M F H (Ex.refl F) W (.bl _) k
theorem inV_kds (i : Kd) : ∀ ns : List Kd, inV (.str i.str) (ns.map fun k => V.str k.str) = decide (i ∈ ns)
  | [] => rfl
  | n :: ns => by
    have e : inV (.str i.str) ((n :: ns).map fun k => V.str k.str) = (eqV (.str n.str) (.str i.str) || inV (.str i.str) (ns.map fun k => V.str k.str)) := rfl
    rw [e, inV_kds i ns]
    have e2 : eqV (.str n.str) (.str i.str) = decide (n = i) := by
      show (n.str == i.str) = _
      exact kd_ne _ _
    rw [e2]
    by_cases h : n = i
    · subst h; simp
    · have h' : ¬ i = n := fun z => h z.symm
      simp [h, h']
theorem flat_kds : ∀ ns : List Kd, (ns.map fun k => V.str k.str).all flatV = true
  | [] => rfl
  | _ :: ns => by rw [List.map_cons, List.all_cons, flat_kds ns]; rfl
theorem Reps.kds {F : Hp} : ∀ {vs : List V} {ns : List Kd}, Reps K F vs (ns.map fun k => D.str k.str) → vs = ns.map fun k => V.str k.str
  | [], [], _ => rfl
  | _ :: _, [], h => by cases h
  | [], _ :: _, h => by cases h
  | _ :: _, _ :: _, h => by
    cases h with
    | cons r t => cases r; rw [List.map_cons, Reps.kds t]
theorem o2_inK {i : Kd} {ns : List Kd} (hx : x = .str i.str) (hy : y = .tup (ns.map fun k => .str k.str)) (k : R (.bl (decide (i ∈ ns))) M) : O2 K (rIn K false) x y M R := fun F0 H0 F H v w W r1 r2 Q z => by
  subst hx; subst hy
  cases r1
  cases r2 with
  | tup h q =>
    have e := q.kds
    subst e
    refine ⟨_, _, rfl, .inr (SqT.of (W.ex _ _ h)), rfl, flat_kds ns, ?_⟩
    show Q (.bl (inV (.str i.str) (ns.map fun k => V.str k.str))) H
    rw [inV_kds]
    exact z _ _ M F H (Ex.refl F) W (.bl _) k
/-! ### None -/
theorem o2_isN (k : R (.bl (match x with | .non => true | _ => false)) M) (hx : (match x with | .any => False | .loc _ => True | _ => True)) : O2 K rIsN x .non M R := fun F0 H0 F H v w W r1 r2 Q z => by
  cases r2
  refine ⟨rfl, ?_⟩
  cases r1 <;> first | exact z _ _ M F H (Ex.refl F) W (.bl _) k | exact hx.elim
theorem o2_notN (k : R (.bl (match x with | .non => false | _ => true)) M) (hx : (match x with | .any => False | .loc _ => True | _ => True)) : O2 K rNotN x .non M R := fun F0 H0 F H v w W r1 r2 Q z => by
  cases r2
  refine ⟨rfl, ?_⟩
  cases r1 <;> first | exact z _ _ M F H (Ex.refl F) W (.bl _) k | exact hx.elim
end
end Qr

/-! #### Qi -/
set_option maxHeartbeats 2000000
/-! The rest of the readings over data. -/
namespace Qr
open PySem L2
section
variable {K : PySem.W.Frag} {ρ : Sl} {M : Mem} {R : D → Mem → Prop} {te ta tb tc tv : TE} {x y d : D} {i : Nat} {P : Post} {t u : TS} {RI : List D → Mem → Prop}

theorem yields_enumT {F0 H0 F : Hp} {a : Addr} {vs : List V} {ds : List D} (hs : SqT K F a vs) (r : Reps K F vs ds) : Yields K F0 H0 F (Itu K a) (enD ds) := fun M' F' H' e W' => by
  have hs' : SqT K H' a vs := ex_t W'.ex (ex_t e hs)
  refine ⟨fun i d hd => ?_, ⟨vs, hs', by rw [enD_length, r.length] <;> exact Nat.le_refl _⟩⟩
  obtain ⟨d', hd', rfl⟩ := enD_get hd
  obtain ⟨w, hw, rw'⟩ := r.get hd'
  refine ⟨⟨vs, w, hs', hw⟩, fun x H'' ⟨T, y, ex, hT, eH, hy⟩ => ?_⟩
  subst ex; subst eH
  have := hy vs hs'
  rw [hw] at this
  cases this
  obtain ⟨W2, e2⟩ := W'.new hT (.tup [.int (i : Nat), w])
  exact ⟨_, e2, W2, .tup upd_same (.cons (.int _) (.one (rw'.mono (e.trans e2))))⟩
theorem Frz.read {F H : Hp} {x : D} {l : Bool} {ds : List D} {v : V} (fz : Frz x l ds) (r1 : Rep K F v x) : ∃ a vs, v = .ref a ∧ Reps K F vs ds ∧ if l = true then SqL K F a vs else SqT K F a vs := by
  cases fz with
  | lst => cases r1 with | lst h r => exact ⟨_, _, rfl, r, .inl (.inl h)⟩
  | seq => cases r1 with | seq h r => exact ⟨_, _, rfl, r, h⟩
  | tup => cases r1 with | tup h r => exact ⟨_, _, rfl, r, SqT.of h⟩
theorem itr_enumX {t : TA} (h : EaR K t ρ M fun xs M1 => ∃ x l ds, xs = [x] ∧ Frz x l ds ∧ RI (enD ds) M1) : ItR K (iEnumX K t) ρ M RI := fun F0 H0 F H σ S W Q q =>
  h F0 H0 F H σ S W _ fun vs xs M1 F1 H1 e1 W1 r1 ⟨x, l, ds, ed, fz, k⟩ => by
    subst ed
    obtain ⟨v0, rfl, r⟩ := reps_one r1
    obtain ⟨a, vs, rfl, r, hs⟩ := Frz.read (H := H1) fz r
    cases l with
    | true =>
      have hs : SqL K F1 a vs := hs
      exact ⟨a, rfl, .inl ⟨⟨vs, ex_l W1.ex hs⟩, q _ _ _ _ _ e1 W1 (yields_enum hs r) k⟩⟩
    | false =>
      have hs : SqT K F1 a vs := hs
      exact ⟨a, rfl, .inr ⟨⟨vs, ex_t W1.ex hs⟩, q _ _ _ _ _ e1 W1 (yields_enumT hs r) k⟩⟩
/-- a tuple of the written part is walked -/
theorem itr_konst {a : Addr} {vs : List V} {ds : List D} (hs : ∀ H, SqT K H a vs) (hr : ∀ F, Reps K F vs ds) (k : RI ds M) : ItR K (iSeq K (tC (.ref a))) ρ M RI := fun F0 H0 F H σ S W Q q =>
  ⟨a, rfl, .inr ⟨⟨vs, hs H⟩, q _ ds _ _ _ (Ex.refl F) W (fun M' F' H' e W' => ⟨fun i d hd => by
    obtain ⟨w, hw, rw'⟩ := (hr F').get hd
    refine ⟨⟨vs, w, hs H', hw⟩, fun x H'' ⟨hh, hx⟩ => ?_⟩
    subst hh
    have := hx vs (hs _)
    rw [hw] at this
    cases this
    exact ⟨F', Ex.refl _, W', rw'⟩, ⟨vs, hs H', by rw [(hr F').length]; exact Nat.le_refl _⟩⟩) k⟩⟩

/-! ### built-ins -/
theorem ol_listA {l : Bool} {ds : List D} (it : Items M x l ds) (k : R (.lst ds) M) : OL K (rListA K) [x] M R := fun F0 H0 F H vs W r1 Q z => by
  obtain ⟨v, rfl, r⟩ := reps_one r1
  obtain ⟨p, vs, rfl, r, hs⟩ := it.read W r
  refine ⟨p, vs, rfl, ?_, fun q hq => ?_⟩
  · cases l with
    | true => exact .inl hs
    | false => exact .inr hs
  · obtain ⟨W2, e2⟩ := W.new hq (.lst vs)
    exact z _ _ _ _ _ e2 W2 (.lst upd_same (r.mono e2)) k
theorem ol_sum {ns : List Int} (it : Items M x true (ns.map D.int)) (k : R (.int ns.sum) M) : OL K (rSum K) [x] M R := fun F0 H0 F H vs W r1 Q z => by
  obtain ⟨v, rfl, r⟩ := reps_one r1
  obtain ⟨p, vs, rfl, r, hs⟩ := it.read W r
  have e := r.ints
  subst e
  exact ⟨p, ns, rfl, hs, z _ _ _ _ _ (Ex.refl F) W (.int _) k⟩
theorem ol_max {ns : List Int} (it : Items M x true (ns.map D.int)) (hn : 0 < ns.length) (k : ∀ m, m ∈ ns → (∀ y, y ∈ ns → y ≤ m) → R (.int m) M) : OL K (rMax K) [x] M R := fun F0 H0 F H vs W r1 Q z => by
  obtain ⟨v, rfl, r⟩ := reps_one r1
  obtain ⟨p, vs, rfl, r, hs⟩ := it.read W r
  have e := r.ints
  subst e
  exact ⟨p, ns, rfl, hs, hn, fun m h1 h2 => z _ _ _ _ _ (Ex.refl F) W (.int _) (k m h1 h2)⟩
theorem ol_all {bs : List Bool} (it : Items M x true (bs.map D.bl)) (k : R (.bl (bs.all id)) M) : OL K (rAll K) [x] M R := fun F0 H0 F H vs W r1 Q z => by
  obtain ⟨v, rfl, r⟩ := reps_one r1
  obtain ⟨p, vs, rfl, r, hs⟩ := it.read W r
  have e := r.bls
  subst e
  exact ⟨p, bs, rfl, hs, z _ _ _ _ _ (Ex.refl F) W (.bl _) k⟩
theorem ol_min2 {i j : Int} (k : R (.int (if j < i then j else i)) M) : OL K rMin2 [.int i, .int j] M R := fun F0 H0 F H vs W r1 Q z => by
  obtain ⟨v, w, rfl, r, r'⟩ := reps_two r1
  cases r; cases r'
  exact ⟨i, j, rfl, z _ _ _ _ _ (Ex.refl F) W (.int _) k⟩
theorem ol_abs {i : Int} (k : R (.int (if i < 0 then -i else i)) M) : OL K rAbs [.int i] M R := fun F0 H0 F H vs W r1 Q z => by
  obtain ⟨v, rfl, r⟩ := reps_one r1
  cases r
  exact ⟨i, rfl, z _ _ _ _ _ (Ex.refl F) W (.int _) k⟩
theorem ol_int1i {i : Int} (k : R (.int i) M) : OL K rInt1 [.int i] M R := fun F0 H0 F H vs W r1 Q z => by
  obtain ⟨v, rfl, r⟩ := reps_one r1
  cases r
  exact .inl ⟨i, rfl, z _ _ _ _ _ (Ex.refl F) W (.int _) k⟩
theorem ol_int1b {b : Bool} (k : R (.int (if b then 1 else 0)) M) : OL K rInt1 [.bl b] M R := fun F0 H0 F H vs W r1 Q z => by
  obtain ⟨v, rfl, r⟩ := reps_one r1
  cases r
  exact .inr ⟨b, rfl, z _ _ _ _ _ (Ex.refl F) W (.int _) k⟩
theorem ol_divmod {i j : Int} (c : CDiv i j) (k : R (.tup [.int (i / j), .int (i % j)]) M) : OL K rDivmod [.int i, .int j] M R := fun F0 H0 F H vs W r1 Q z => by
  obtain ⟨v, w, rfl, r, r'⟩ := reps_two r1
  cases r; cases r'
  refine ⟨i, j, rfl, c, fun p hp => ?_⟩
  obtain ⟨W2, e2⟩ := W.new hp (.tup [.int (i / j), .int (i % j)])
  exact z _ _ _ _ _ e2 W2 (.tup upd_same (.cons (.int _) (.one (.int _)))) k
/-! ### isinstance -/
/-- data of an exact kind -/
inductive TyD (K : PySem.W.Frag) (M : Mem) : D → Value → Prop
  | int (i : Int) : TyD K M (.int i) (.type "int")
  | bl (i : Bool) : TyD K M (.bl i) (.type "bool")
  | lst (ds) : TyD K M (.lst ds) (.type "list")
  | tup (ds) : TyD K M (.tup ds) (.type "tuple")
  | str (s) : TyD K M (.str s) (.type "str")
  | ins {z : D} {C : Addr} {fs : List (Str × D)} (h : IsIns M z C fs) (c : ∀ {H : Hp} {a dx : Addr} {fs : List (Str × V)}, H a = some (.ins C dx fs) → TyX K H (.ref a) (.ref C)) : TyD K M z (.ref C)
inductive ClsD : D → Value → Prop
  | ty (n) : ClsD (.ty n) (.type n)
  | own (a) : ClsD (.loc a) (.ref a)
theorem TyD.read {F0 H0 F H : Hp} {x : D} {t : Value} {v : V} (h : TyD K M x t) (W : Wok K F0 H0 F M H) (r : Rep K F v x) : TyX K H v t := by
  cases h with
  | int i => cases r; exact .base (.int i)
  | bl i => cases r; exact .base (.bl i)
  | str i => cases r; exact .base (.str i)
  | lst ds => cases r with | lst h r => exact .base (.lst (W.ex _ _ h))
  | tup ds => cases r with | tup h r => exact .base (.tup (W.ex _ _ h))
  | ins h c =>
    obtain ⟨a, dx, vs, rfl, ha, r⟩ := h.read W r
    exact c ha
theorem ClsD.read {F : Hp} {x : D} {t : Value} {v : V} (h : ClsD x t) (r : Rep K F v x) : ClsV v t := by
  cases h <;> cases r
  · exact .ty _
  · exact .own _
theorem ol_isi {t u : Value} {b : Bool} (h : TyD K M x t) (hc : ClsD y u) (hk : PySem.W.kitOne K t u = some b) (k : R (.bl b) M) : OL K (rIsi K) [x, y] M R := fun F0 H0 F H vs W r1 Q z => by
  obtain ⟨v, w, rfl, r, r'⟩ := reps_two r1
  exact ⟨v, w, t, u, b, rfl, hc.read r', h.read W r, hk, z _ _ _ _ _ (Ex.refl F) W (.bl _) k⟩
inductive ClsDs : List D → List Value → Prop
  | nil : ClsDs [] []
  | cons {d v ds vs} (h : ClsD d v) (t : ClsDs ds vs) : ClsDs (d :: ds) (v :: vs)
theorem ClsDs.read {F : Hp} : ∀ {ds : List D} {ts : List Value} {vs : List V}, ClsDs ds ts → Reps K F vs ds → Paired ClsV vs ts
  | _, _, _, .nil, .nil => .nil
  | _, _, _, .cons h t, .cons r s => .cons (h.read r) (ClsDs.read t s)
theorem ol_isiT {t : Value} {us : List Value} {cs : List D} {b : Bool} (h : TyD K M x t) (hc : ClsDs cs us) (hk : PySem.W.kitAny K t us = some b) (k : R (.bl b) M) : OL K (rIsiT K) [x, .tup cs] M R := fun F0 H0 F H vs W r1 Q z => by
  obtain ⟨v, w, rfl, r, r'⟩ := reps_two r1
  cases r' with
  | tup hT r' => exact ⟨v, _, _, t, us, b, rfl, W.ex _ _ hT, hc.read r', h.read W r, hk, z _ _ _ _ _ (Ex.refl F) W (.bl _) k⟩
/-! ### conversions -/
theorem evr_tupOf (h : EvR K ta ρ M fun x M1 => ∃ l ds, Items M1 x l ds ∧ (l = false → x = .tup ds) ∧ R (.tup ds) M1) : EvR K (tThen ta (kTup K)) ρ M R := fun F0 H0 F H σ S W Q q =>
  h F0 H0 F H σ S W _ fun v x M1 F1 H1 e1 W1 r1 ⟨l, ds, it, hx, k⟩ => by
    cases l with
    | true =>
      obtain ⟨p, vs, rfl, r, hs⟩ := it.read W1 r1
      refine .inl ⟨p, vs, rfl, hs, fun p2 hp => ?_⟩
      obtain ⟨W2, e2⟩ := W1.new hp (.tup vs)
      exact q _ _ _ _ _ (e1.trans e2) W2 (.tup upd_same (r.mono e2)) k
    | false =>
      have := hx rfl
      subst this
      obtain ⟨p, vs, rfl, r, hs⟩ := it.read W1 r1
      exact .inr ⟨p, vs, rfl, hs, q _ _ _ _ _ e1 W1 r1 k⟩
theorem rgV_rgD {F : Hp} (n : Int) : Reps K F (rgV 0 n) (rgD 0 n.toNat) := by
  unfold rgV rgD
  rw [Int.sub_zero]
  generalize List.range n.toNat = l
  induction l with
  | nil => exact .nil
  | cons a l ih => exact .cons (.int _) ih
theorem evr_lstRg (h : EvR K ta ρ M fun x M1 => ∃ n : Int, x = .int n ∧ 0 ≤ n ∧ n ≤ 100000 ∧ R (.lst (rgD 0 n.toNat)) M1) : EvR K (tLstRg (tRg1 ta)) ρ M R := fun F0 H0 F H σ S W Q q =>
  h F0 H0 F H σ S W _ fun v x M1 F1 H1 e1 W1 r1 ⟨n, ex, h0, h1, k⟩ => by
    subst ex
    cases r1
    refine ⟨n, rfl, RgOk.of_le (Int.le_refl _) (by omega) (by omega) h0, fun p hp => ?_⟩
    obtain ⟨W2, e2⟩ := W1.new hp (.lst (rgV 0 n))
    exact q _ _ _ _ _ (e1.trans e2) W2 (.lst upd_same (rgV_rgD n)) k
theorem evr_tupRg (h : EvR K ta ρ M fun x M1 => ∃ n : Int, x = .int n ∧ 0 ≤ n ∧ n ≤ 100000 ∧ R (.tup (rgD 0 n.toNat)) M1) : EvR K (tTupRg (tRg1 ta)) ρ M R := fun F0 H0 F H σ S W Q q =>
  h F0 H0 F H σ S W _ fun v x M1 F1 H1 e1 W1 r1 ⟨n, ex, h0, h1, k⟩ => by
    subst ex
    cases r1
    refine ⟨n, rfl, RgOk.of_le (Int.le_refl _) (by omega) (by omega) h0, fun p hp => ?_⟩
    obtain ⟨W2, e2⟩ := W1.new hp (.tup (rgV 0 n))
    exact q _ _ _ _ _ (e1.trans e2) W2 (.tup upd_same (rgV_rgD n)) k
theorem evr_revL (h : EvR K ta ρ M fun x M1 => ∃ ds, Items M1 x true ds ∧ R (.lst ds.reverse) M1) : EvR K (tRevL K ta) ρ M R := fun F0 H0 F H σ S W Q q =>
  h F0 H0 F H σ S W _ fun v x M1 F1 H1 e1 W1 r1 ⟨ds, it, k⟩ => by
    obtain ⟨p, vs, rfl, r, hs⟩ := it.read W1 r1
    refine ⟨p, vs, rfl, hs, fun p2 hp => ?_⟩
    obtain ⟨W2, e2⟩ := W1.new hp (.lst vs.reverse)
    exact q _ _ _ _ _ (e1.trans e2) W2 (.lst upd_same (r.mono e2).reverse) k
/-- a slice of a list -/
def cutD (ds : List D) (lo hi : Option Int) : List D := (ds.drop (HT.sIx ds.length 0 lo)).take (HT.sIx ds.length ds.length hi - HT.sIx ds.length 0 lo)
theorem Reps.cut {F : Hp} {vs : List V} {ds : List D} (r : Reps K F vs ds) (lo hi : Option Int) : Reps K F (cutV vs lo hi) (cutD ds lo hi) := by
  unfold cutV cutD
  rw [r.length]
  exact (r.drop _).take _
theorem evr_sl {tl th : TO} (h : EvR K ta ρ M fun x M1 => EoR K tl ρ M1 fun lo M2 => EoR K th ρ M2 fun hi M3 => ∃ ds, Items M3 x true ds ∧ R (.lst (cutD ds lo hi)) M3) : EvR K (tSl (rSlX K) ta tl th) ρ M R := fun F0 H0 F H σ S W Q q =>
  h F0 H0 F H σ S W _ fun v x M1 F1 H1 e1 W1 r1 k1 => k1 F0 H0 F1 H1 σ (S.mono e1) W1 _ fun lo M2 F2 H2 e2 W2 k2 => k2 F0 H0 F2 H2 σ (S.mono (e1.trans e2)) W2 _ fun hi M3 F3 H3 e3 W3 ⟨ds, it, k⟩ => by
    obtain ⟨p, vs, rfl, r, hs⟩ := it.read W3 (r1.mono (e2.trans e3))
    refine .inl ⟨p, vs, rfl, hs, fun p2 hp => ?_⟩
    obtain ⟨W4, e4⟩ := W3.new hp (.lst (cutV vs lo hi))
    exact q _ _ _ _ _ ((e1.trans e2).trans (e3.trans e4)) W4 (.lst upd_same ((r.cut lo hi).mono e4)) k
theorem evr_slT {tl th : TO} (h : EvR K ta ρ M fun x M1 => EoR K tl ρ M1 fun lo M2 => EoR K th ρ M2 fun hi M3 => ∃ ds, x = .tup ds ∧ R (.tup (cutD ds lo hi)) M3) : EvR K (tSl (rSlX K) ta tl th) ρ M R := fun F0 H0 F H σ S W Q q =>
  h F0 H0 F H σ S W _ fun v x M1 F1 H1 e1 W1 r1 k1 => k1 F0 H0 F1 H1 σ (S.mono e1) W1 _ fun lo M2 F2 H2 e2 W2 k2 => k2 F0 H0 F2 H2 σ (S.mono (e1.trans e2)) W2 _ fun hi M3 F3 H3 e3 W3 ⟨ds, ex, k⟩ => by
    subst ex
    have r3 := r1.mono (e2.trans e3)
    cases r3 with
    | @tup p vs _ hT r =>
      refine .inr ⟨p, vs, rfl, SqT.of (W3.ex _ _ hT), fun ⟨z1, z2⟩ => ?_, fun _ p2 hp => ?_⟩
      · refine q _ _ _ _ _ ((e1.trans e2).trans e3) W3 (.tup hT r) ?_
        have : cutD ds lo hi = ds := by
          unfold cutD
          rw [← r.length, z1, z2, Nat.sub_zero, List.drop_zero, r.length, List.take_length]
        rw [this] at k
        exact k
      · obtain ⟨W4, e4⟩ := W3.new hp (.tup (cutV vs lo hi))
        exact q _ _ _ _ _ ((e1.trans e2).trans (e3.trans e4)) W4 (.tup upd_same ((r.cut lo hi).mono e4)) k
theorem evr_chain {r r' : R2} (h : EvR K ta ρ M fun x M1 => EvR K tb ρ M1 fun y M2 => O2 K r x y M2 fun z M3 => ∃ b, z = .bl b ∧ if b = true then EvR K tc ρ M3 fun w M4 => O2 K r' y w M4 R else R (.bl false) M3) : EvR K (tChain r r' ta tb tc) ρ M R := fun F0 H0 F H σ S W Q q =>
  h F0 H0 F H σ S W _ fun v x M1 F1 H1 e1 W1 r1 k => k F0 H0 F1 H1 σ (S.mono e1) W1 _ fun w y M2 F2 H2 e2 W2 r2 o =>
    o F0 H0 F2 H2 v w W2 (r1.mono e2) r2 _ fun z d M3 F3 H3 e3 W3 r3 ⟨b, ed, k3⟩ => by
      subst ed
      cases r3
      refine ⟨b, rfl, ?_⟩
      cases b with
      | true =>
        exact k3 F0 H0 F3 H3 σ (S.mono ((e1.trans e2).trans e3)) W3 _ fun w' wd M4 F4 H4 e4 W4 r4 o => o F0 H0 F4 H4 w w' W4 (r2.mono (e3.trans e4)) r4 Q fun z d M5 F5 H5 e5 W5 r5 x => q z d M5 F5 H5 (((e1.trans e2).trans (e3.trans e4)).trans e5) W5 r5 x
      | false => exact q _ _ _ _ _ ((e1.trans e2).trans e3) W3 (.bl false) k3
/-! ### while -/
theorem st_while {tt : TT} (Iv : Nat → Sl → Mem → Prop) (h0 : ∃ m, Iv m ρ M) (hs : ∀ m ρ' M', Iv m ρ' M' → TvR K tt ρ' M' fun b M1 => if b = true then StR K t ρ' M1 { nx := fun ρ2 M2 => ∃ m', m' < m ∧ Iv m' ρ2 M2, ct := fun ρ2 M2 => ∃ m', m' < m ∧ Iv m' ρ2 M2, bk := P.nx, rt := P.rt } else P.nx ρ' M1) :
    StR K (tWhile tt t) ρ M P := fun F0 H0 F H σ S W E a b c dd => by
  obtain ⟨m0, h0⟩ := h0
  refine ⟨fun m σ' H' => ∃ F' ρ' M', Ex F F' ∧ Sok K F' ρ' σ' ∧ Wok K F0 H0 F' M' H' ∧ Iv m ρ' M', ⟨m0, F, ρ, M, Ex.refl _, S, W, h0⟩, ?_⟩
  rintro m σ' H' ⟨F', ρ', M', e', S', W', iv⟩
  refine hs m ρ' M' iv F0 H0 F' H' σ' S' W' _ fun bb M1 F1 H1 e1 W1 k => ?_
  cases bb with
  | true =>
    refine ⟨fun σ2 H2 => ∃ m', m' < m ∧ ∃ F' ρ' M', Ex F F' ∧ Sok K F' ρ' σ2 ∧ Wok K F0 H0 F' M' H2 ∧ Iv m' ρ' M', fun σ2 H2 h => h, ?_⟩
    exact k F0 H0 F1 H1 σ' (S'.mono e1) W1 _ (fun σ3 ρ3 M3 F3 H3 e3 S3 W3 ⟨m', hm, k⟩ => ⟨m', hm, F3, ρ3, M3, (e'.trans e1).trans e3, S3, W3, k⟩) (fun v x M3 F3 H3 e3 W3 r3 k => b v x M3 F3 H3 ((e'.trans e1).trans e3) W3 r3 k)
      (fun σ3 ρ3 M3 F3 H3 e3 S3 W3 k => a σ3 ρ3 M3 F3 H3 ((e'.trans e1).trans e3) S3 W3 k) (fun σ3 ρ3 M3 F3 H3 e3 S3 W3 ⟨m', hm, k⟩ => ⟨m', hm, F3, ρ3, M3, (e'.trans e1).trans e3, S3, W3, k⟩)
  | false => exact a σ' ρ' M1 F1 H1 (e'.trans e1) (S'.mono e1) W1 k
end

/-! ### dicts -/
section
variable {κ : Type} [DecidableEq κ]
def valD (kvs : List (κ × D)) (k : κ) : Option D := (kvs.find? fun kv => decide (kv.1 = k)).map (·.2)
def putKD (kvs : List (κ × D)) (k : κ) (v : D) : List (κ × D) := if (kvs.any fun kv => decide (kv.1 = k)) = true then kvs.map (fun kv => if kv.1 = k then (kv.1, v) else kv) else kvs ++ [(k, v)]
variable {K : PySem.W.Frag} {F : Hp}
theorem RepK.val (k : κ) : ∀ {vs : List (κ × V)} {ds : List (κ × D)}, RepK K F vs ds → (valV vs k = none ∧ valD ds k = none) ∨ ∃ v d, valV vs k = some v ∧ valD ds k = some d ∧ Rep K F v d
  | _, _, .nil => .inl ⟨rfl, rfl⟩
  | (g, v) :: vs, (_, d) :: ds, .cons r t => by
    by_cases h : g = k
    · exact .inr ⟨v, d, by simp [valV, List.find?_cons, h], by simp [valD, List.find?_cons, h], r⟩
    · have e1 : valV ((g, v) :: vs) k = valV vs k := by simp [valV, List.find?_cons, h]
      have e2 : valD ((g, d) :: ds) k = valD ds k := by simp [valD, List.find?_cons, h]
      rw [e1, e2]
      exact RepK.val k t
theorem RepK.any (k : κ) : ∀ {vs : List (κ × V)} {ds : List (κ × D)}, RepK K F vs ds → (vs.any fun kv => decide (kv.1 = k)) = (ds.any fun kv => decide (kv.1 = k))
  | _, _, .nil => rfl
  | (g, v) :: vs, (_, d) :: ds, .cons r t => by rw [List.any_cons, List.any_cons, RepK.any k t]
theorem RepK.append : ∀ {vs ws : List (κ × V)} {ds es : List (κ × D)}, RepK K F vs ds → RepK K F ws es → RepK K F (vs ++ ws) (ds ++ es)
  | _, _, _, _, .nil, s => s
  | _, _, _, _, .cons r t, s => .cons r (RepK.append t s)
theorem RepK.map (k : κ) {v : V} {d : D} (r : Rep K F v d) : ∀ {vs : List (κ × V)} {ds : List (κ × D)}, RepK K F vs ds → RepK K F (vs.map fun kv => if kv.1 = k then (kv.1, v) else kv) (ds.map fun kv => if kv.1 = k then (kv.1, d) else kv)
  | _, _, .nil => .nil
  | (g, w) :: vs, (_, e) :: ds, .cons q t => by
    rw [List.map_cons, List.map_cons]
    by_cases h : g = k
    · rw [if_pos h, if_pos h]; exact .cons r (RepK.map k r t)
    · rw [if_neg h, if_neg h]; exact .cons q (RepK.map k r t)
theorem RepK.put (k : κ) {v : V} {d : D} (r : Rep K F v d) {vs : List (κ × V)} {ds : List (κ × D)} (h : RepK K F vs ds) : RepK K F (putK vs k v) (putKD ds k d) := by
  unfold putK putKD
  rw [RepK.any k h]
  split
  · exact h.map k r
  · exact h.append (.cons r .nil)
end
/-- a key as data -/
def kD : Key → D
  | .inl i => .int i
  | .inr s => .str s
theorem kD_rep {K : PySem.W.Frag} {F : Hp} {v : V} : ∀ {k : Key}, Rep K F v (kD k) → v = kV k
  | .inl i, r => by cases r; rfl
  | .inr s, r => by cases r; rfl
theorem kDs_rep {K : PySem.W.Frag} {F : Hp} : ∀ {ks : List Key} {vs : List V}, Reps K F vs (ks.map kD) → vs = ks.map kV
  | [], _, .nil => rfl
  | k :: ks, _, .cons r t => by rw [List.map_cons, kD_rep r, kDs_rep t]
theorem rep_kD {K : PySem.W.Frag} {F : Hp} : ∀ k : Key, Rep K F (kV k) (kD k)
  | .inl i => .int i
  | .inr s => .str s
/-- a dict with a key as it stands in data -/
inductive KeyIn : DO → D → Option D → (D → DO) → Prop
  | k (kvs : List (Key × D)) (k : Key) : KeyIn (.dK kvs) (kD k) (valD kvs k) (fun v => .dK (putKD kvs k v))
  | t (kvs : List (List Key × D)) (ks : List Key) : KeyIn (.dT kvs) (.tup (ks.map kD)) (valD kvs ks) (fun v => .dT (putKD kvs ks v))
section
variable {K : PySem.W.Frag} {ρ : Sl} {M : Mem} {R : D → Mem → Prop} {te ta tb tc tv td ty tx : TE} {P : Post}
def DO.small : DO → Prop
  | .lst xs => xs.length ≤ 100000
  | .dK xs => xs.length ≤ 100000
  | .dT xs => xs.length ≤ 100000
  | .ins _ xs => xs.length ≤ 100000
def DO.isD : DO → Prop
  | .dK _ => True
  | .dT _ => True
  | _ => False
theorem keyGet {F0 H0 F H : Hp} {a : Addr} {o : DO} {y : D} {r : Option D} {g : D → DO} {v : V} (W : Wok K F0 H0 F M H) (hm : (a, o) ∈ M) (k : KeyIn o y r g) (ry : Rep K F v y) :
    ∃ ro, DGet H a v ro ∧ ((ro = none ∧ r = none) ∨ ∃ w d, ro = some w ∧ r = some d ∧ Rep K F w d) := by
  obtain ⟨u, hu, ro⟩ := W.at hm
  cases k with
  | k kvs k =>
    cases ro with
    | dK rk =>
      rw [kD_rep ry]
      exact ⟨_, DGet.k hu, by
        rcases rk.val k with ⟨a, b⟩ | ⟨v, d, a, b, c⟩
        · exact .inl ⟨a, b⟩
        · exact .inr ⟨v, d, a, b, c⟩⟩
  | t kvs ks =>
    cases ro with
    | dT rk =>
      cases ry with
      | tup hT rt =>
        rw [kDs_rep rt] at hT
        exact ⟨_, DGet.t hu (W.ex _ _ hT), by
          rcases rk.val ks with ⟨a, b⟩ | ⟨v, d, a, b, c⟩
          · exact .inl ⟨a, b⟩
          · exact .inr ⟨v, d, a, b, c⟩⟩
theorem evr_dnewK (h : ∀ p, (∀ q ∈ M, q.1 ≠ p) → R (.loc p) ((p, .dK []) :: M)) : EvR K tDNewK ρ M R := fun F0 H0 F H σ S W Q q => fun p hp => by
  exact q _ _ _ _ _ (Ex.refl F) (W.newO hp (.dK .nil)) (.loc p) (h p (W.ne hp))
theorem evr_dget (h : EvR K td ρ M fun x M1 => EvR K ty ρ M1 fun y M2 => ∃ a o d g, x = .loc a ∧ (a, o) ∈ M2 ∧ KeyIn o y (some d) g ∧ R d M2) : EvR K (tDGet td ty) ρ M R := fun F0 H0 F H σ S W Q q =>
  h F0 H0 F H σ S W _ fun v x M1 F1 H1 e1 W1 r1 k1 => k1 F0 H0 F1 H1 σ (S.mono e1) W1 _ fun w y M2 F2 H2 e2 W2 r2 ⟨a, o, d, g, ex, hm, ki, k⟩ => by
    subst ex
    cases r1
    obtain ⟨ro, dg, hh⟩ := keyGet W2 hm ki r2
    rcases hh with ⟨_, e⟩ | ⟨u, d', rfl, e, rr⟩
    · cases e
    · cases e
      exact ⟨a, u, rfl, dg, q _ _ _ _ _ (e1.trans e2) W2 rr k⟩
theorem isD_of {F0 H0 F H : Hp} {a : Addr} {o : DO} (W : Wok K F0 H0 F M H) (hm : (a, o) ∈ M) (hd : o.isD) : IsD H a := by
  obtain ⟨u, hu, ro⟩ := W.at hm
  cases ro with
  | lst _ => exact hd.elim
  | ins _ => exact hd.elim
  | dK _ => exact .inl ⟨_, .inl hu⟩
  | dT _ => exact .inr ⟨_, .inl hu⟩
theorem evr_dget2 (h : EvR K td ρ M fun x M1 => ∃ a o, x = .loc a ∧ (a, o) ∈ M1 ∧ o.isD ∧ EvR K ty ρ M1 fun y M2 => EvR K tx ρ M2 fun z M3 => ∃ o d g, (a, o) ∈ M3 ∧ KeyIn o y d g ∧ R (d.getD z) M3) : EvR K (tDGet2 td ty tx) ρ M R := fun F0 H0 F H σ S W Q q =>
  h F0 H0 F H σ S W _ fun v x M1 F1 H1 e1 W1 r1 ⟨a, o, ex, hm, hd, k1⟩ => by
    subst ex
    cases r1
    refine ⟨a, rfl, isD_of W1 hm hd, k1 F0 H0 F1 H1 σ (S.mono e1) W1 _ fun w y M2 F2 H2 e2 W2 r2 k2 => k2 F0 H0 F2 H2 σ (S.mono (e1.trans e2)) W2 _ fun u z M3 F3 H3 e3 W3 r3 ⟨o, d, g, hm3, ki, k⟩ => ?_⟩
    obtain ⟨ro, dg, hh⟩ := keyGet W3 hm3 ki (r2.mono e3)
    refine ⟨ro, dg, ?_⟩
    rcases hh with ⟨rfl, rfl⟩ | ⟨u', d', rfl, rfl, rr⟩
    · exact q _ _ _ _ _ ((e1.trans e2).trans e3) W3 r3 k
    · exact q _ _ _ _ _ ((e1.trans e2).trans e3) W3 rr k
theorem st_dput (h : EvR K tv ρ M fun d M1 => EvR K td ρ M1 fun x M2 => EvR K ty ρ M2 fun y M3 => ∃ a o r g Mr, x = .loc a ∧ M3.Perm ((a, o) :: Mr) ∧ o.small ∧ KeyIn o y r g ∧ P.nx ρ ((a, g d) :: Mr)) : StR K (sDPut td ty tv) ρ M P := fun F0 H0 F H σ S W E a b c dd =>
  h F0 H0 F H σ S W _ fun v d M1 F1 H1 e1 W1 r1 k1 => k1 F0 H0 F1 H1 σ (S.mono e1) W1 _ fun o x M2 F2 H2 e2 W2 r2 k2 => k2 F0 H0 F2 H2 σ (S.mono (e1.trans e2)) W2 _ fun w y M3 F3 H3 e3 W3 r3 ⟨p, ob, r, g, Mr, ex, pm, sm, ki, z⟩ => by
    subst ex
    cases r2
    have W4 := W3.perm pm
    obtain ⟨u, hu, ro⟩ := W4.at (List.mem_cons_self ..)
    have rv := r1.mono (e2.trans e3)
    cases ki with
    | k kvs k =>
      cases ro with
      | dK rk =>
        rw [kD_rep r3]
        refine ⟨p, _, rfl, DPut.k hu (by rw [rk.length]; exact Nat.lt_of_le_of_lt sm (by decide)), ?_⟩
        exact a σ ρ _ F3 _ ((e1.trans e2).trans e3) (S.mono ((e1.trans e2).trans e3)) (W4.write (.dK (rk.put k rv))) z
    | t kvs ks =>
      cases ro with
      | dT rk =>
        cases r3 with
        | tup hT rt =>
          rw [kDs_rep rt] at hT
          refine ⟨p, _, rfl, DPut.t hu (W4.ex _ _ hT) (by rw [rk.length]; exact Nat.lt_of_le_of_lt sm (by decide)), ?_⟩
          exact a σ ρ _ F3 _ ((e1.trans e2).trans e3) (S.mono ((e1.trans e2).trans e3)) (W4.write (.dT (rk.put ks rv))) z
/-- the pairs of a display -/
def TpR (K : PySem.W.Frag) (trs : List (TE × TE)) (ρ : Sl) (M : Mem) (R : List (D × D) → Mem → Prop) : Prop :=
  ∀ (F0 H0 F H : Hp) (σ : L2.St), Sok K F ρ σ → Wok K F0 H0 F M H → ∀ Q : List (V × V) → Hp → Prop,
    (∀ ps ds M' F' H', Ex F F' → Wok K F0 H0 F' M' H' → Reps K F' (ps.map (·.1)) (ds.map (·.1)) → Reps K F' (ps.map (·.2)) (ds.map (·.2)) → R ds M' → Q ps H') → tPairs trs σ H Q
theorem tpr_nil {R : List (D × D) → Mem → Prop} (q : R [] M) : TpR K [] ρ M R := fun F0 H0 F H σ S W Q k => k [] [] M F H (Ex.refl F) W .nil .nil q
theorem tpr_cons {R : List (D × D) → Mem → Prop} {trs : List (TE × TE)} (h : EvR K ta ρ M fun x M1 => EvR K tb ρ M1 fun y M2 => TpR K trs ρ M2 fun xs M3 => R ((x, y) :: xs) M3) : TpR K ((ta, tb) :: trs) ρ M R := fun F0 H0 F H σ S W Q q =>
  h F0 H0 F H σ S W _ fun v x M1 F1 H1 e1 W1 r1 k => k F0 H0 F1 H1 σ (S.mono e1) W1 _ fun w y M2 F2 H2 e2 W2 r2 k => k F0 H0 F2 H2 σ (S.mono (e1.trans e2)) W2 _ fun ps ds M3 F3 H3 e3 W3 r3 r4 k =>
    q ((v, w) :: ps) ((x, y) :: ds) M3 F3 H3 ((e1.trans e2).trans e3) W3 (.cons (r1.mono (e2.trans e3)) r3) (.cons (r2.mono e3) r4) k
def mergeD (kvs more : List (Key × D)) : List (Key × D) := more.foldl (fun acc kv => putKD acc kv.1 kv.2) kvs
theorem RepK.merge {F : Hp} : ∀ {ms : List (Key × V)} {md : List (Key × D)} {vs : List (Key × V)} {ds : List (Key × D)}, RepK K F ms md → RepK K F vs ds → RepK K F (mergeK vs ms) (mergeD ds md)
  | [], [], _, _, _, s => s
  | (f, v) :: ms, (_, d) :: md, _, _, .cons r t, s => RepK.merge (ms := ms) (md := md) t (s.put f r)
theorem pairs_keys {F : Hp} : ∀ {ps : List (V × V)} {kds : List (Key × D)}, Reps K F (ps.map (·.1)) ((kds.map fun kv => (kD kv.1, kv.2)).map (·.1)) → Reps K F (ps.map (·.2)) ((kds.map fun kv => (kD kv.1, kv.2)).map (·.2)) →
    ∃ kvs : List (Key × V), ps = kvs.map (fun kv => (kV kv.1, kv.2)) ∧ RepK K F kvs kds
  | [], [], _, _ => ⟨[], rfl, .nil⟩
  | [], _ :: _, h, _ => by cases h
  | _ :: _, [], h, _ => by cases h
  | (p1, p2) :: ps, (k, d) :: kds, .cons r t, .cons r' t' => by
    obtain ⟨kvs, e, rk⟩ := pairs_keys t t'
    refine ⟨(k, p2) :: kvs, ?_, .cons r' rk⟩
    have r : Rep K F p1 (kD k) := r
    rw [e, List.map_cons, kD_rep r]
theorem evr_disp {trs : List (TE × TE)} (h : ∀ p, (∀ q ∈ M, q.1 ≠ p) → TpR K trs ρ ((p, .dK []) :: M) fun ds M1 => ∃ kds : List (Key × D), M1 = (p, .dK []) :: M ∧ ds = kds.map (fun kv => (kD kv.1, kv.2)) ∧ kds.length ≤ 15 ∧ R (.loc p) ((p, .dK (mergeD [] kds)) :: M)) :
    EvR K (tDisp trs) ρ M R := fun F0 H0 F H σ S W Q q => fun p hp => by
  have W1 := W.newO hp (RepO.dK (K := K) (H := F) .nil)
  refine h p (W.ne hp) F0 H0 F _ σ S W1 _ fun ps ds M1 F1 H1 e1 W2 r1 r2 ⟨kds, em, ed, hl, k⟩ => ?_
  subst em; subst ed
  obtain ⟨kvs, ep, rk⟩ := pairs_keys r1 r2
  obtain ⟨u, hu, ro⟩ := W2.at (List.mem_cons_self ..)
  cases ro with
  | dK r0 =>
    cases r0
    exact ⟨hu, kvs, ep, by rw [rk.length]; exact hl, q _ _ _ _ _ e1 (W2.write (.dK (RepK.merge rk .nil))) (.loc p) k⟩
end
end Qr

/-! #### Qj -/
set_option maxHeartbeats 2000000
/-! From a def and what its body does to its promise. -/
namespace Qr
open PySem PySem.Spec PyProof.Rows L2
open C8 (Cal Met Mak)
section
variable {P : Program} {w : World} {K : PySem.W.Frag} {mg : Str → Option Value} {base : Heap}
theorem spM_len {pre : List D → Mem → (D → Mem → Prop) → Prop} {n : Nat} (h : ∀ ds M R, pre ds M R → ds.length = n) : ∀ vs H Q E, spM K pre vs H Q E → vs.length = n := fun vs H Q E ⟨F, H0, M, ds, R, r, W, hp, q⟩ => by rw [r.length]; exact h ds M R hp
theorem calD {x q : Str} {params : Arguments} {body : List Stmt} {scope : Scope} {f : Addr} {N ps : List Str} {k : Nat} {t : TS} {pre : List D → Mem → (D → Mem → Prop) → Prop}
    (F : ∃ fd, FunD K x q params body scope [] [] f fd) (hm : mg x = some (.ref f)) (S : FnScope N ps scope)
    (hb : ∀ (kV doc pm : Value) (an : Option Addr) (cdv ct : Value) (us : List Value), us.length = ps.length → bindArgs (PySem.W.fnOf x q params body scope .none kV doc pm an cdv ct) ⟨us, []⟩ = pure (ps.zip us))
    (der : ∀ {cdv : Value} {A : Around} {outer : List Env} {s : Shared} {H : Hp} {E : XK}, Room k (A.deeper (envOfC q scope s.heap.objs.size f cdv)) → PSs (cxOf C0 P w K mg base N q scope f cdv A outer s H E).nox body t)
    (len : ∀ ds M R, pre ds M R → ds.length = ps.length)
    (st : ∀ ds M R, pre ds M R → StR K t (ini N ds) M { nx := fun _ M' => R .non M', rt := R }) : Cal P w K mg base (k + 1) x (spM K pre) [] := by
  obtain ⟨fd, F⟩ := F
  exact ⟨f, fd, ps, [], F.ok S (spM_len len) fun cdv A outer s H vs Q E hr hsp => ⟨t, (der (outer := outer) (H := H) (E := E) hr).nox, body_ok (ps := ps) hsp st⟩, hm, F.kp, F.bindsN hb, .nil⟩
theorem metD {m q : Str} {C : Addr} {params : Arguments} {body : List Stmt} {scope : Scope} {f : Addr} {N ps : List Str} {k : Nat} {t : TS} {pre : List D → Mem → (D → Mem → Prop) → Prop}
    (F : ∃ fd, FunD K m q params body scope [] [] f fd) (c : Cls K C) (me : Meth K C m f) (S : FnScope N ps scope)
    (hb : ∀ (kV doc pm : Value) (an : Option Addr) (cdv ct : Value) (us : List Value), us.length = ps.length → bindArgs (PySem.W.fnOf m q params body scope .none kV doc pm an cdv ct) ⟨us, []⟩ = pure (ps.zip us))
    (der : ∀ {cdv : Value} {A : Around} {outer : List Env} {s : Shared} {H : Hp} {E : XK}, Room k (A.deeper (envOfC q scope s.heap.objs.size f cdv)) → PSs (cxOf C0 P w K mg base N q scope f cdv A outer s H E).nox body t)
    (len : ∀ ds M R, pre ds M R → ds.length = ps.length)
    (st : ∀ ds M R, pre ds M R → StR K t (ini N ds) M { nx := fun _ M' => R .non M', rt := R }) : Met P w K mg base (k + 1) C m (spM K pre) [] := by
  obtain ⟨fd, F⟩ := F
  exact ⟨f, fd, ps, [], c, me, F.ok S (spM_len len) fun cdv A outer s H vs Q E hr hsp => ⟨t, (der (outer := outer) (H := H) (E := E) hr).nox, body_ok (ps := ps) hsp st⟩, F.bindsN hb, .nil⟩
theorem makD {x q : Str} {C : Addr} {params : Arguments} {body : List Stmt} {scope : Scope} {f : Addr} {N ps : List Str} {k : Nat} {t : TS} {pre : List D → Mem → (D → Mem → Prop) → Prop}
    (F : ∃ fd, FunD K "__init__" q params body scope [] [] f fd) (M : Mk K C f) (hm : mg x = some (.ref C)) (S : FnScope N ps scope)
    (hb : ∀ (kV doc pm : Value) (an : Option Addr) (cdv ct : Value) (us : List Value), us.length = ps.length → bindArgs (PySem.W.fnOf "__init__" q params body scope .none kV doc pm an cdv ct) ⟨us, []⟩ = pure (ps.zip us))
    (der : ∀ {cdv : Value} {A : Around} {outer : List Env} {s : Shared} {H : Hp} {E : XK}, Room k (A.deeper (envOfC q scope s.heap.objs.size f cdv)) → PSs (cxOf C0 P w K mg base N q scope f cdv A outer s H E).nox body t)
    (len : ∀ ds M R, pre ds M R → ds.length = ps.length)
    (st : ∀ ds M R, pre ds M R → StR K t (ini N ds) M { nx := fun _ M' => R .non M', rt := R }) : Mak P w K mg base (k + 1) x C (spM K pre) [] := by
  obtain ⟨fd, F⟩ := F
  exact ⟨f, fd, ps, [], M, F.ok S (spM_len len) fun cdv A outer s H vs Q E hr hsp => ⟨t, (der (outer := outer) (H := H) (E := E) hr).nox, body_ok (ps := ps) hsp st⟩, hm, F.bindsN hb, .nil⟩
end
/-! ### forms that end where a value is told -/
section
variable {K : PySem.W.Frag} {ρ : Sl} {M : Mem} {R : D → Mem → Prop} {te ta tb tc tv : TE} {x y d : D} {i : Nat} {P : Post} {t u : TS}
theorem ev_test {tt : TE} {B : Bool → Mem → Prop} (h : EvR K tt ρ M fun d M1 => ∃ b, d = .bl b ∧ B b M1) : TvR K (tTest tt) ρ M B := tvr_test h
theorem truthB {b : Bool} {B : Bool → Mem → Prop} (h : B b M) : ∃ c, TruD M (.bl b) c ∧ B c M := ⟨b, .bl b, h⟩
theorem blB {b : Bool} {B : Bool → Mem → Prop} (h : B b M) : ∃ c, (.bl b : D) = .bl c ∧ B c M := ⟨b, rfl, h⟩
end
end Qr
namespace Qr
open PySem L2
section
variable {K : PySem.W.Frag} {ρ : Sl} {M : Mem} {R : D → Mem → Prop} {te ta tb tc tv : TE} {x y d : D} {i : Nat} {P : Post} {t u : TS}
theorem itT {A B : Prop} (h : A) : if true = true then A else B := h
theorem itF {A B : Prop} (h : B) : if false = true then A else B := h
theorem itD {p : Prop} [Decidable p] {A B : Prop} (h1 : p → A) (h2 : ¬ p → B) : if decide p = true then A else B := by
  by_cases h : p
  · rw [if_pos (decide_eq_true h)]; exact h1 h
  · rw [if_neg (by rw [decide_eq_true_eq]; exact h)]; exact h2 h
theorem itnT {A B : Prop} (h : A) : if (!false) = true then A else B := h
theorem itnF {A B : Prop} (h : B) : if (!true) = true then A else B := h
theorem itnD {p : Prop} [Decidable p] {A B : Prop} (h1 : ¬ p → A) (h2 : p → B) : if (!decide p) = true then A else B := by
  by_cases h : p
  · rw [decide_eq_true h]; exact h2 h
  · rw [decide_eq_false h]; exact h1 h
theorem itnP {p : Prop} [Decidable p] {A B : Prop} (h : ¬ p) (k : A) : if (!decide p) = true then A else B := itnD (fun _ => k) (fun n => absurd n h)
theorem itnN {p : Prop} [Decidable p] {A B : Prop} (h : p) (k : B) : if (!decide p) = true then A else B := itnD (fun n => absurd h n) (fun _ => k)
theorem itP {p : Prop} [Decidable p] {A B : Prop} (h : p) (k : A) : if decide p = true then A else B := itD (fun _ => k) (fun n => absurd h n)
theorem itN {p : Prop} [Decidable p] {A B : Prop} (h : ¬ p) (k : B) : if decide p = true then A else B := itD (fun n => absurd n h) (fun _ => k)
theorem itB {b : Bool} {A B : Prop} (h1 : b = true → A) (h2 : b = false → B) : if b = true then A else B := by
  cases b
  · exact h2 rfl
  · exact h1 rfl
theorem itBT {b : Bool} {A B : Prop} (h : b = true) (h1 : A) : if b = true then A else B := by rw [if_pos h]; exact h1
theorem itBF {b : Bool} {A B : Prop} (h : b = false) (h1 : B) : if b = true then A else B := by rw [h]; exact h1
theorem ev_meth {P : Program} {w : World} {mg : Str → Option Value} {base : Heap} {j : Nat} {m : Str} {t : TA}
    (h : EvR K ta ρ M fun o M1 => ∃ C fs k p, IsIns M1 o C fs ∧ fs.lookup m = none ∧ C8.Met P w K mg base k C m (spD K p) [] ∧ k ≤ j ∧ EaR K t ρ M1 fun ds M2 => ∃ d, p (o :: ds) d ∧ R d M2) :
    EvR K (tMethX P w K mg base j m ta t) ρ M R := evr_meth (p := fun _ _ => True) h
/-- a new list, owned, under a name -/
theorem st_setO {j : Nat} (h : ∀ p, (∀ q ∈ M, q.1 ≠ p) → P.nx (ρ.set j (some (.loc p))) ((p, .lst []) :: M)) : StR K (tAsg (tLst tNil) (gName j)) ρ M P :=
  st_set (evr_lstO (ear_nil ⟨Nat.zero_le _, fun p hp => h p hp⟩))
theorem truthL {ds : List D} {B : Bool → Mem → Prop} {l : Bool} (it : Items M x l ds) (h : B (!ds.isEmpty) M) : ∃ c, TruD M x c ∧ B c M := ⟨_, .items it, h⟩
theorem evr_lst0 (q : R (.lst []) M) : EvR K (tLst tNil) ρ M R := evr_lst (ear_nil ⟨Nat.zero_le _, q⟩)
theorem ear_c {R : List D → Mem → Prop} {ta : TE} {t : TA} (h : EvR K ta ρ M fun x M1 => EaR K t ρ M1 fun xs M2 => R (x :: xs) M2) : EaR K (tCons ta t) ρ M R := ear_cons h
theorem memH {a : Addr} {o : DO} {M : Mem} : (a, o) ∈ (a, o) :: M := List.mem_cons_self ..
theorem atI_nat {ds : List D} {k : Nat} {d : D} (h : ds[k]? = some d) : L2.atI ds (k : Int) = some d := by
  have hl : k < ds.length := by
    rcases Nat.lt_or_ge k ds.length with h1 | h1
    · exact h1
    · rw [List.getElem?_eq_none h1] at h; cases h
  unfold L2.atI ixN
  rw [if_pos (by omega), if_pos (by omega)]
  simpa using h
theorem atI_last {ds : List D} {d : D} (h : ds.getLast? = some d) : L2.atI ds (-1) = some d := by
  have hne : ds ≠ [] := by intro e; subst e; cases h
  have hl : 0 < ds.length := List.length_pos_iff.mpr hne
  unfold L2.atI ixN
  rw [if_neg (by omega), if_pos (by omega)]
  rw [List.getLast?_eq_getElem?] at h
  have e : (-1 + (ds.length : Int)).toNat = ds.length - 1 := by omega
  show ds[(-1 + (ds.length : Int)).toNat]? = some d
  rw [e]; exact h
end
end Qr

/-! #### Qo -/
set_option maxHeartbeats 2000000
/-! == by an own __eq__. -/
namespace Qr
open PySem PySem.Spec PyProof.Rows L2
open C8 (Cal Met Mak)
/-- a == b by the class's own __eq__, by any promise that stands for it -/
def rEqO (P : Program) (w : World) (K : PySem.W.Frag) (mg : Str → Option Value) (base : Heap) (j : Nat) : R2 := fun x y H Q => ∃ a b C dx dy fs gs sp k, x = .ref a ∧ y = .ref b ∧ H a = some (.ins C dx fs) ∧ H b = some (.ins C dy gs) ∧ Met P w K mg base k C "__eq__" sp [] ∧ k ≤ j ∧
  sp [.ref a, .ref b] H (fun v H' => (∃ r, v = .bl r) ∧ Q v H') N0
theorem op_eqO {X : Cx} {j : Nat} (hr : Room j X.A) : OpR X (compareOp .Eq) (rEqO X.prog X.w X.K X.mg X.base j) := by
  intro pins s σ H x y v u Q I rx ry h
  obtain ⟨a, b, C, dx, dy, fs, gs, sp, k, rfl, rfl, ha, hb', c, hk, q⟩ := h
  cases rx
  cases ry
  obtain ⟨f, fd, ps, ds, hc, hm, F, hb, d⟩ := c.ex
  obtain ⟨mA, J, _⟩ := ins_get I.hok ha
  obtain ⟨mB, J', _⟩ := ins_get I.hok hb'
  obtain ⟨od, J, _⟩ := J.look
  obtain ⟨od', J', _⟩ := J'.look
  obtain ⟨m, hF⟩ := I.fr
  refine PySem.W.cmp_K (op := .Eq) (tb := .ref C) (hr.mono (Nat.zero_le j)).units0 hF I.ok.mod.kin J J'.type (by simp [PySem.W.notFirst]) hm.at_ hm.fn ?_
  refine wpAny_mono (run_fn (us := [.ref a, .ref b]) (vs := [.ref a, .ref b]) F (hr.mono hk) hb d C8.pass0 I (.cons rfl (.cons rfl .nil)) (by rw [List.append_nil]; exact q)) (fun w s' hw => ?_) (fun _ _ e => e)
  obtain ⟨z, H', I', rz, ⟨r, ez⟩, hq⟩ := hw
  subst ez
  cases rz
  exact ⟨.bl r, H', I', rfl, hq⟩
section
variable {P : Program} {w : World} {K : PySem.W.Frag} {mg : Str → Option Value} {base : Heap} {ρ : Sl} {M : Mem} {R : D → Mem → Prop} {x y : D} {j k : Nat} {C : Addr} {fs gs : List (Str × D)}
theorem o2_eqO {p : List D → D → Prop} {b : Bool} (ix : IsIns M x C fs) (iy : IsIns M y C gs) (c : Met P w K mg base k C "__eq__" (spD K p) []) (hk : k ≤ j) (hp : p [x, y] (.bl b)) (q : R (.bl b) M) : O2 K (rEqO P w K mg base j) x y M R := fun F0 H0 F H v u W r1 r2 Q z => by
  obtain ⟨a, dx, vs, rfl, ha, _⟩ := ix.read W r1
  obtain ⟨a', dx', vs', rfl, ha', _⟩ := iy.read W r2
  refine ⟨a, a', C, dx, dx', vs, vs', _, k, rfl, rfl, ha, ha', c, hk, ?_⟩
  refine sp_in (Ma := []) (Mb := M) (.cons r1 (.one r2)) W ⟨rfl, _, hp, rfl⟩ fun v d' Ma' F' H' e W' r k => ?_
  have k : d' = .bl b := k
  subst k
  cases r
  exact ⟨⟨b, rfl⟩, z _ _ M F' H' e W'.sub (.bl b) q⟩
end
end Qr

/-! #### Qs -/
set_option maxHeartbeats 4000000
/-! set(list) of ints or texts, told with its table; sorted of it. -/
namespace Qr
open PySem PySem.Spec PyProof.Rows L2
/-- one kind of keys: how a key lies as a value -/
structure Kn (P : Program) (w : World) (κ : Type) [DecidableEq κ] where
  knd : KeyKind P w κ
  ml : κ → Tok → Value
  kOf : Value → κ
  of_mk : ∀ k t, kOf (ml k t) = k
  is_mk : ∀ k t j, knd.is j (ml k t) = true ↔ k = j
  sc : ∀ k t, (ml k t).scannable = true
section
variable {P : Program} {w : World} {κ : Type} [DecidableEq κ] (B : Kn P w κ)
def GoodX (e : Int × Value) : Prop := ∃ k t, e.2 = B.ml k t ∧ e.1 = B.knd.hash k
def keyX (e : Int × Value) : κ := B.kOf e.2
def SetX (h : Heap) (a : Addr) (S : κ → Bool) (n : Nat) : Prop :=
  ∃ o es ep t, h.get? a = some o ∧ o.ExactSet ∧ o.data = .set es ep t ∧ (∀ e ∈ es.toList, GoodX B e) ∧ (es.toList.map (keyX B)).Nodup ∧ (∀ k, S k = true ↔ k ∈ es.toList.map (keyX B)) ∧
    es.size < scanBound ∧ t.fits es.size = true ∧ es.size = n ∧ Ris t.place.toList ∧ (w.params.followText "set-order" = true ∨ t.led = true)
variable {B} {h h' : Heap} {a : Addr} {S : κ → Bool} {n : Nat}
theorem SetX.at (R : SetX B h a S n) (k : ∀ o, h.get? a = some o → h'.get? a = some o) : SetX B h' a S n := by
  obtain ⟨o, es, ep, t, ho, r⟩ := R
  exact ⟨o, es, ep, t, k o ho, r⟩
theorem SetX.congr {S' : κ → Bool} (R : SetX B h a S n) (e : ∀ k, S' k = S k) : SetX B h a S' n := by
  have q : S' = S := funext e
  rw [q]; exact R
theorem goodx_elems {l : List (Int × Value)} (g : ∀ e ∈ l, GoodX B e) : ElemsOf B.knd l := fun e he => by
  obtain ⟨k, t, h1, h2⟩ := g e he
  exact ⟨⟨k, by rw [h1]; exact (B.is_mk k t k).mpr rfl, h2⟩, by rw [h1]; exact B.sc k t⟩
theorem goodx_is {e : Int × Value} (g : GoodX B e) (k : κ) : B.knd.is k e.2 = true ↔ keyX B e = k := by
  obtain ⟨k0, t, h1, _⟩ := g
  unfold keyX
  rw [h1, B.of_mk]
  exact B.is_mk k0 t k
theorem goodx_mem {l : List (Int × Value)} (g : ∀ e ∈ l, GoodX B e) (k : κ) : k ∈ l.map (keyX B) ↔ ∃ e ∈ l, B.knd.is k e.2 = true := by
  rw [List.mem_map]
  exact ⟨fun ⟨e, he, q⟩ => ⟨e, he, (goodx_is (g e he) k).2 q⟩, fun ⟨e, he, q⟩ => ⟨e, he, (goodx_is (g e he) k).1 q⟩⟩
variable {A : Around} {E : Value → Shared → Prop} {s : Shared}
theorem setx_tail {g : Bool → Sem Unit} (hg : ∀ (b : Bool) (s₁ : Shared) (Q' : Unit → Shared → Prop), Q' () s₁ → wpAny (model P w) A (g b) Q' E s₁)
    {o : Obj} {es : Array (Int × Value)} {ep : Nat} {t : SetTable} (ho : s.heap.get? a = some o) (hex : o.ExactSet) (hd : o.data = .set es ep t)
    {es1 : Array (Int × Value)} {t2 : SetTable} {S' : κ → Bool} (g1 : ∀ e ∈ es1.toList, GoodX B e) (nd1 : (es1.toList.map (keyX B)).Nodup) (m1 : ∀ k, S' k = true ↔ k ∈ es1.toList.map (keyX B))
    (hb1 : es1.size < scanBound) (hf2 : t2.fits es1.size = true) (hr : Ris t2.place.toList) (hl : w.params.followText "set-order" = true ∨ t2.led = true) {wasDummy : Bool} {R : Option Bool → Shared → Prop}
    (hR : ∀ h', Heap.SameBut a s.heap h' → SetX B h' a S' es1.size → R (some true) { s with heap := h' }) :
    wpAny (model P w) A (do
        storeSet a es1 t2
        if (!wasDummy && t2.tooFull) = true then do
            g (relayAll t2 es1 (SetTable.grown es1.size)).2.2
            storeSet a (relayAll t2 es1 (SetTable.grown es1.size)).1 (relayAll t2 es1 (SetTable.grown es1.size)).2.1
            pure (some true)
          else pure (some true)) R E s := by
  refine wpAny_bind (wpAny_storeSet_of ho hd ?_ (fits_of_scanBound hb1))
  have ho1 := store_at (es' := es1) (t' := t2) ho hd
  have sb1 := Heap.SameBut.update s.heap a (Obj.putSet es1 t2)
  split
  · have pm := relayAll_perm t2 es1 (SetTable.grown es1.size)
    have hf3 := relayAll_fits t2 es1 (SetTable.grown es1.size)
    have hr3 := relayAll_ris t2 es1 (SetTable.grown es1.size)
    have hl3 := relayAll_led t2 es1 (SetTable.grown es1.size)
    generalize relayAll t2 es1 (SetTable.grown es1.size) = Z at pm hf3 hr3 hl3 ⊢
    obtain ⟨es2, t3, gave⟩ := Z
    dsimp only at pm hf3 hr3 hl3 ⊢
    have hsz : es2.size = es1.size := by rw [← Array.length_toList, pm.length_eq, Array.length_toList]
    have hb2 : es2.size < scanBound := by rw [hsz]; exact hb1
    refine wpAny_bind (hg _ _ _ ?_)
    refine wpAny_bind (wpAny_storeSet_of ho1 rfl ?_ (fits_of_scanBound hb2))
    have ho2 := store_at (es' := es2) (t' := t3) ho1 rfl
    refine wpAny_pure (hR _ (sb1.trans (Heap.SameBut.update _ a _)) ?_)
    exact ⟨_, es2, _, t3, ho2, hex, rfl, fun e he => g1 e (pm.mem_iff.mp he), (pm.map (keyX B)).nodup_iff.mpr nd1, fun k => (m1 k).trans (pm.map (keyX B)).mem_iff.symm, hb2, hf3, hsz, hr3,
      hl.imp id fun z => by rw [hl3]; exact z⟩
  · exact wpAny_pure (hR _ sb1 ⟨_, es1, _, t2, ho1, hex, rfl, g1, nd1, m1, hb1, hf2, rfl, hr, hl⟩)
theorem setx_add {k : κ} {tk : Tok} {Q : Bool → Shared → Prop} (R : SetX B s.heap a S n) (room : n + 1 < scanBound)
    (hQ : ∀ h', Heap.SameBut a s.heap h' → SetX B h' a (fun j => S j || decide (j = k)) (if S k = true then n else n + 1) → Q (!S k) { s with heap := h' }) :
    wpAny (model P w) A (setAddHashed a (B.ml k tk) (B.knd.hash k)) Q E s := by
  obtain ⟨o, es, ep, t, ho, hex, hd, g, nd, hm, hb, hf, hn, hr, hl⟩ := R
  have hkey : B.knd.is k (B.ml k tk) = true := (B.is_mk k tk k).mpr rfl
  have hsc : (B.ml k tk).scannable = true := B.sc k tk
  have hel : ElemsOf B.knd es.toList := goodx_elems g
  unfold setAddHashed setAddHashedIn
  refine wpAny_holding (wpAny_bind (wpAny_setState_of ho hd hf ?_))
  dsimp only
  rw [byScan_of hsc hb hel]
  simp only [↓reduceIte]
  unfold setAddByScan
  refine wpAny_bind ?_
  refine wpAny_bind (wpAny_rule ?_)
  refine wpAny_bind (wpAny_setScan_of hkey ho hd hf hel ?_)
  cases hfi : List.findIdx? (fun e => B.knd.is k e.2) es.toList with
  | some j =>
    dsimp only
    obtain ⟨hj, pj, _⟩ := List.findIdx?_eq_some_iff_getElem.mp hfi
    have hSk : S k = true := (hm k).2 ((goodx_mem g k).2 ⟨es.toList[j], List.getElem_mem hj, pj⟩)
    refine wpAny_pure (wpAny_pure ?_)
    have q := hQ s.heap (Heap.SameBut.refl a s.heap) ⟨o, es, ep, t, ho, hex, hd, g, nd, fun i => by
      rw [Bool.or_eq_true, decide_eq_true_eq, ← hm i]
      exact ⟨fun z => z.elim id (fun e => e ▸ hSk), .inl⟩, hb, hf, by rw [if_pos hSk]; exact hn, hr, hl⟩
    rw [hSk] at q
    exact q
  | none =>
    dsimp only
    have hnk : k ∉ es.toList.map (keyX B) := fun z => by
      obtain ⟨e, he, q⟩ := (goodx_mem g k).1 z
      have c := List.findIdx?_eq_none_iff.mp hfi e he
      rw [q] at c
      cases c
    have hSk : S k = false := by
      cases q : S k with
      | false => rfl
      | true => exact absurd ((hm k).1 q) hnk
    have hgw : ∀ (b : Bool) {s₁ : Shared} {Q' : Unit → Shared → Prop}, Q' () s₁ → wpAny (model P w) A (match b with | true => rule "set.scan.the-table-gave-way" | false => pure ()) Q' E s₁ :=
      fun b s₁ Q' q => by cases b <;> first | exact wpAny_pure q | exact wpAny_rule q
    have pm := layNew_perm t es (B.knd.hash k) (B.ml k tk)
    have hf1 := layNew_fits t es (B.knd.hash k) (B.ml k tk)
    have hr1 := layNew_ris t es (B.knd.hash k) (B.ml k tk) hr
    have hl1 := layNew_led t es (B.knd.hash k) (B.ml k tk)
    generalize layNew t es (B.knd.hash k) (B.ml k tk) = Z at pm hf1 hr1 hl1 ⊢
    obtain ⟨es1, t1, wasDummy, gave⟩ := Z
    dsimp only at pm hf1 hr1 hl1 ⊢
    rw [Array.toList_push] at pm
    have pc : es1.toList.Perm ((B.knd.hash k, B.ml k tk) :: es.toList) := pm.trans (List.perm_append_singleton _ _)
    have pk : (es1.toList.map (keyX B)).Perm (k :: es.toList.map (keyX B)) := by
      have := pc.map (keyX B)
      rw [List.map_cons, show keyX B (B.knd.hash k, B.ml k tk) = k from B.of_mk k tk] at this
      exact this
    have g1 : ∀ e ∈ es1.toList, GoodX B e := fun e he => by
      rcases List.mem_cons.mp (pc.mem_iff.mp he) with z | z
      · rw [z]; exact ⟨k, tk, rfl, rfl⟩
      · exact g e z
    have nd1 : (es1.toList.map (keyX B)).Nodup := pk.nodup_iff.mpr (List.nodup_cons.mpr ⟨hnk, nd⟩)
    have m1 : ∀ i, (S i || decide (i = k)) = true ↔ i ∈ es1.toList.map (keyX B) := fun i => by
      rw [Bool.or_eq_true, decide_eq_true_eq, hm i, pk.mem_iff, List.mem_cons]
      exact Or.comm
    have hsz : es1.size = n + 1 := by rw [← Array.length_toList, pc.length_eq, List.length_cons, Array.length_toList, hn]
    have hb1 : es1.size < scanBound := by rw [hsz]; exact room
    have hled : w.params.followText "set-order" = true ∨ t1.led = true := hl.imp id fun z => by rw [hl1]; exact z
    have fin : ∀ h', Heap.SameBut a s.heap h' → SetX B h' a (fun j => S j || decide (j = k)) es1.size → Q true { s with heap := h' } := fun h' sb r => by
      have q := hQ h' sb
      rw [hSk] at q
      rw [hsz] at r
      exact q r
    refine wpAny_bind (hgw _ ?_)
    split
    · refine wpAny_bind ?_
      rw [hashByValue_scannable 8 hsc]
      refine wpAny_pure ?_
      refine setx_tail ?_ ho hex hd g1 nd1 m1 hb1 ?_ ?_ ?_ ?_
      · intro b s₁ Q' q; cases b <;> first | exact wpAny_pure q | exact wpAny_rule q
      · first | (split <;> first | exact hf1 | exact SetTable.fits_plain_off hf1) | exact hf1
      · first | (split <;> exact hr1) | exact hr1
      · first | (split <;> exact hled) | exact hled
      · intro h' sb r; dsimp only; exact wpAny_pure (fin h' sb r)
    · refine wpAny_bind (wpAny_pure ?_)
      simp only [↓reduceIte]
      refine setx_tail ?_ ho hex hd g1 nd1 m1 hb1 hf1 hr1 hled ?_
      · intro b s₁ Q' q; cases b <;> first | exact wpAny_pure q | exact wpAny_rule q
      · intro h' sb r; dsimp only; exact wpAny_pure (fin h' sb r)
theorem setx_new {ks : List κ} (ho : h.get? a = some { cls := .type "set", dict := none, data := .set #[] 0 (.fresh 0 0 (!w.params.followText "set-order")) }) : SetX B h a (fun j => decide (j ∈ ks.take 0)) 0 :=
  ⟨_, #[], 0, _, ho, ⟨rfl, rfl, rfl⟩, rfl, (fun e he => by simp at he), (by simp), (fun k => by simp), (by decide), (by rfl), rfl, List.Pairwise.nil, by
    show _ ∨ (!w.params.followText "set-order") = true
    cases w.params.followText "set-order"
    · exact .inr rfl
    · exact .inl rfl⟩
theorem setx_loop {I : Addr} {fp wr : List Addr} {G : Array GenState → Array GenState → Prop} {n : Nat} {Pv : Nat → Value → Prop} {St : Nat → Shared → Prop} {R : Result → Shared → Prop}
    (W : WalksS P w A.in1 I fp wr G n Pv St) (S : Addr) (hSf : S ∉ fp) (ns : List κ) (hn : n = ns.length) (hb : ns.length + 1 < scanBound) (hval : ∀ i v, Pv i v → ∃ k t, ns[i]? = some k ∧ v = B.ml k t) :
    ∀ (k i : Nat) (s : Shared), n - i = k → i ≤ n → St i s → (∃ c, c ≤ i ∧ SetX B s.heap S (fun j => decide (j ∈ ns.take i)) c) →
      (∀ s' c, Moved (S :: wr) G s s' → c ≤ n → SetX B s'.heap S (fun j => decide (j ∈ ns)) c → R (.ok (.ret .none)) s') →
      codeAny (model P w) A (.builtin "set.update.loop" ⟨[.ref S, .ref I], []⟩) R s := by
  have hSw : S ∉ wr := fun h => hSf (W.sub _ h)
  have hsub : ∀ b ∈ wr, b ∈ S :: wr := fun b hb => List.mem_cons_of_mem _ hb
  intro k
  induction k with
  | zero =>
    intro i s hk' hi hst ⟨c, hc, hS⟩ hR
    have hin : i = n := by omega
    subst hin
    refine codeAny_builtin F.entry_set_update_loop ?_
    rw [Around.under_plainId F.plain_set_update_loop _]
    show wpAny _ A.in1 (pyNext (.ref I) >>= _) _ _ s
    refine wpAny_bind (W.done s _ _ hst fun s' hm => ?_)
    show wpAny _ A.in1 (ret Value.none) _ _ s'
    have e : ns.take i = ns := List.take_of_length_le (by omega)
    rw [e] at hS
    exact wpAny_pure (hR s' c (hm.mono hsub) hc (hS.at fun o e => hm.heap S o hSw e))
  | succ k ih =>
    intro i s hk' hi hst ⟨c, hc, hS⟩ hR
    have hlt : i < n := by omega
    refine codeAny_builtin F.entry_set_update_loop ?_
    rw [Around.under_plainId F.plain_set_update_loop _]
    show wpAny _ A.in1 (pyNext (.ref I) >>= _) _ _ s
    refine wpAny_bind (W.item i s _ _ hlt hst fun v s' hP hst' hm => ?_)
    obtain ⟨z, t, hz, rfl⟩ := hval i v hP
    have hS' : SetX B s'.heap S (fun j => decide (j ∈ ns.take i)) c := hS.at fun o e => hm.heap S o hSw e
    show wpAny _ A.in1 (holding [B.ml z t] (setAdd S (B.ml z t)) >>= _) _ _ s'
    refine wpAny_bind (wpAny_holding ?_)
    unfold setAdd
    refine wpAny_holding ?_
    refine wpAny_bind (B.knd.pyHash (k := z) ((B.is_mk z t z).mpr rfl) ?_)
    refine setx_add (s := { s' with toks := s'.toks + 1 }) hS' (by omega) fun h' hsb hS2 => ?_
    have hS3 : SetX B h' S (fun j => decide (j ∈ ns.take (i + 1))) (if decide (z ∈ ns.take i) = true then c else c + 1) := hS2.congr fun j => by
      rw [List.take_add_one, hz]
      simp [List.mem_append]
    have hc3 : (if decide (z ∈ ns.take i) = true then c else c + 1) ≤ i + 1 := by
      split <;> omega
    refine wpAny_pure ⟨plainId_quiet F.plain_set_update_loop _, ih (i + 1) _ (by omega) hlt (W.frame _ s' _ _ hst' (Nat.le_succ _) fun b hb o e => ?_) ⟨_, hc3, hS3⟩ fun s'' c2 hm'' hc'' hS'' => ?_⟩
    · rw [hsb.2 b (fun h : b = S => hSf (by rw [← h]; exact hb))]; exact e
    · refine hR s'' c2 (Moved.trans W.gtrans ((hm.mono hsub).then_heap (Nat.le_succ _) fun b o hb e => ?_) hm'') hc'' hS''
      rw [hsb.2 b (fun h : b = S => hb (by rw [h]; exact List.mem_cons_self))]; exact e
end
end Qr

/-! #### Qu -/
set_option maxHeartbeats 4000000
/-! set(list), sorted(set(list)). -/
namespace Qr
open PySem PySem.Spec PyProof.Rows L2
section
variable {P : Program} {w : World} {κ : Type} [DecidableEq κ] {B : Kn P w κ} {A : Around} {E : Value → Shared → Prop} {s : Shared}
theorem call_setX {l : Addr} {items : Array Value} (ns : List κ) {Q : Value → Shared → Prop} (hh : A.handled = none) (hl : s.heap.IsList l items) (hisz : items.size = ns.length)
    (hval : ∀ (i : Nat) (v : Value), items[i]? = some v → ∃ k t, ns[i]? = some k ∧ v = B.ml k t) (hb : ns.length + 1 < scanBound)
    (h : ∀ (h' : Heap) (tk c : Nat), SetX B h' s.heap.objs.size (fun j => decide (j ∈ ns)) c → c ≤ ns.length → (∀ b o, s.heap.get? b = some o → h'.get? b = some o) → Q (.ref s.heap.objs.size) { s with heap := h', toks := tk }) :
    wpAny (model P w) A (call (.type "set") [.ref l]) Q E s := by
  obtain ⟨c, tl, hmro⟩ := F.called_set.mro
  have hmade := F.called_set.made
  have hsub := F.called_set.sub
  refine wpAny_call (codeAny_of_tree ?_)
  show wpAny _ _ (callAny (.type "set") _) _ _ _
  refine wpAny_pure ⟨Code.quiet_builtin _ (by decide +kernel), codeAny_builtin F.entry_type_call ?_⟩
  rw [Around.under_plain (weight_type_call_type "set" [.ref l] []) rfl]
  have h1 := F.called_set.notType
  have h2 := F.called_set.canCreate
  have hct := F.typeCall_set_1 (.ref l)
  repeat (any_goals (first | assumption | wp_step))

  refine codeAny_mono (code_set_led1 (.ref l) (E := E) (Q₁ := fun obj s₁ => obj = .ref s.heap.objs.size ∧ s₁ = { s with heap := s.heap.push { cls := .type "set", dict := none, data := .set #[] 0 (.fresh 0 0 (!w.params.followText "set-order")) } }) ⟨rfl, rfl⟩) fun r s₁ hr => ?_
  cases r with
  | error e => exact hr
  | ok fl =>
    cases fl with
    | ret obj =>
      obtain ⟨rfl, rfl⟩ := hr
      have hS : (s.heap.push { cls := .type "set", dict := none, data := .set #[] 0 (.fresh 0 0 (!w.params.followText "set-order")) }).get? s.heap.objs.size = some { cls := .type "set", dict := none, data := .set #[] 0 (.fresh 0 0 (!w.params.followText "set-order")) } := Heap.get?_push_size _ rfl
      have hT : Shared.TypeIs { s with heap := s.heap.push { cls := .type "set", dict := none, data := .set #[] 0 (.fresh 0 0 (!w.params.followText "set-order")) } } (.ref s.heap.objs.size) "set" := ⟨_, hS, rfl⟩
      have hli := F.called_set.init.lookup
      have hbi := F.called_set.init.bind (.ref s.heap.objs.size)
      repeat (any_goals (first | assumption | wp_step))

      refine codeAny_mono (codeAny_call_builtin (R := wants (fun r s₂ => r = .none ∧ ∃ h' tk c, s₂ = { s with heap := h', toks := tk } ∧ SetX B h' s.heap.objs.size (fun j => decide (j ∈ ns)) c ∧ c ≤ ns.length ∧
          (∀ b o, s.heap.get? b = some o → h'.get? b = some o)) E) F.called_set.init.plain F.entry_set_init (check_set_init_1 hT ?_)) fun r₂ s₂ hr₂ => ?_
      · obtain ⟨ol, hol, hcl, nl, hdl⟩ := hl
        obtain ⟨ocls, odict, odata, oslots⟩ := ol
        simp only at hcl hdl
        subst hcl; subst hdl
        have hol' : (s.heap.push { cls := .type "set", dict := none, data := .set #[] 0 (.fresh 0 0 (!w.params.followText "set-order")) }).get? l = some { cls := .type "list", dict := odict, data := .seq items nl, slots := oslots } := Heap.get?_push_of_some _ hol
        have hsls := F.sub_list_set
        have hslf := F.sub_list_frozenset
        have hne : (Value.type "list" == Value.type "dict") = false := by decide
        have hl1 : (s.heap.push { cls := .type "set", dict := none, data := .set #[] 0 (.fresh 0 0 (!w.params.followText "set-order")) }).IsList l items := ⟨_, hol', rfl, nl, rfl⟩
        unfold Builtin.«set.__init__» noKeywords Builtin.Frozenset.updateFrom
        generalize hPI : pyIter = PI
        wp_walk
        subst hPI

        refine wpAny_pyIter_list hl1 ?_
        refine wpAny_bind (wpAny_runValue ?_)
        have hlS : l < s.heap.objs.size := Heap.lt_size hol
        have hh3 : A.in1.in1.in1.handled = none := by simp [hh]
        have hneI : l ≠ (s.heap.push { cls := .type "set", dict := none, data := .set #[] 0 (.fresh 0 0 (!w.params.followText "set-order")) }).objs.size := by
          rw [Heap.size_push]; exact Nat.ne_of_lt (Nat.lt_succ_of_lt hlS)
        have hSf : s.heap.objs.size ∉ [(s.heap.push { cls := .type "set", dict := none, data := .set #[] 0 (.fresh 0 0 (!w.params.followText "set-order")) }).objs.size, l] := by
          rw [Heap.size_push]; simp only [List.mem_cons, List.mem_singleton, List.not_mem_nil, or_false, not_or]
          exact ⟨Nat.ne_of_lt (Nat.lt_succ_self _), Nat.ne_of_gt hlS⟩
        refine setx_loop (B := B) ((Walks.list hh3 _ l hneI items).toS) s.heap.objs.size
          hSf ns hisz hb hval (items.size - 0) 0 _ (by omega) (Nat.zero_le _)
          ⟨⟨_, Heap.get?_push_size _ rfl, rfl, rfl⟩, (hl1.push _)⟩ ?hS0 ?hR
        case hS0 =>
          have hget : ((s.heap.push { cls := .type "set", dict := none, data := .set #[] 0 (.fresh 0 0 (!w.params.followText "set-order")) }).push { cls := .type "list_iterator", data := .fields #[.ref l, .int 0 0] }).get? s.heap.objs.size
              = some { cls := .type "set", dict := none, data := .set #[] 0 (.fresh 0 0 (!w.params.followText "set-order")) } := Heap.get?_push_of_some _ hS
          exact ⟨0, Nat.le_refl 0, setx_new hget⟩
        case hR =>
          intro s' c' hm hc' hS'
          obtain ⟨h', g2, d', tk', os'⟩ := s'
          have eg : g2 = s.gens := hm.gens
          have ed : d' = s.drawn := hm.drawn
          have eo : os' = s.os := hm.os
          subst eg; subst ed; subst eo
          show wpAny _ _ _ _ _ _
          refine wpAny_pure ?_
          show wpAny _ _ (ret Value.none) _ _ _
          rw [hisz] at hc'
          refine wpAny_pure ⟨rfl, h', tk', c', rfl, hS', hc', fun b o e => ?_⟩
          have hb0 : b < s.heap.objs.size := Heap.lt_size e
          have hb1 : b ≠ s.heap.objs.size := Nat.ne_of_lt hb0
          have hb2 : b ≠ (s.heap.push { cls := .type "set", dict := none, data := .set #[] 0 (.fresh 0 0 (!w.params.followText "set-order")) }).objs.size := by
            rw [Heap.size_push]; exact Nat.ne_of_lt (Nat.lt_succ_of_lt hb0)
          exact hm.heap b o (by simp only [List.mem_cons, List.mem_singleton, List.not_mem_nil, or_false, not_or]; exact ⟨hb1, hb2⟩) (Heap.get?_push_of_some _ (Heap.get?_push_of_some _ e))

      · cases r₂ with
        | error e => exact hr₂
        | ok fl₂ =>
          cases fl₂ with
          | ret r =>
            obtain ⟨rfl, h', tk, c', rfl, hS', hc', hk'⟩ := hr₂
            repeat (any_goals (first | assumption | wp_step))
            exact h _ _ _ hS' hc' hk'
          | _ => exact hr₂.elim
    | _ => exact hr.elim
/-! ### the two kinds -/
def intK (P : Program) (w : World) : Kn P w Int where
  knd := intKind P w
  ml := fun k t => .int k t
  kOf := fun v => match v with | .int k _ => k | _ => 0
  of_mk := fun _ _ => rfl
  is_mk := fun k t j => by show ((k == j) = true) ↔ k = j; exact beq_iff_eq
  sc := fun _ _ => rfl
theorem setX_R {h : Heap} {a : Addr} {S : Int → Bool} {n : Nat} (R : SetX (intK P w) h a S n) : SetR w h a S n := by
  obtain ⟨o, es, ep, t, ho, hex, hd, g, nd, hm, r⟩ := R
  have e : es.toList.map (keyX (intK P w)) = es.toList.map keyOf := List.map_congr_left fun x hx => by
    obtain ⟨k, t, h1, _⟩ := g x hx
    unfold keyX keyOf
    rw [h1]; rfl
  rw [e] at nd hm
  exact ⟨o, es, ep, t, ho, hex, hd, fun x hx => g x hx, nd, hm, r⟩
def strK (P : Program) (w : World) : Kn P w Str where
  knd := strKind P w
  ml := fun k t => .str k t
  kOf := fun v => match v with | .str k _ => k | _ => Str.empty
  of_mk := fun _ _ => rfl
  is_mk := fun k t j => by
    show Value.isStrOf j (.str k t) = true ↔ k = j
    constructor
    · intro h
      obtain ⟨u, e⟩ := Value.isStrOf_shape h
      injection e
    · intro h
      subst h
      exact strKind_is P w k t
  sc := fun _ _ => rfl
/-- sorted(set of one text at most) -/
theorem sorted_set1 {a : Addr} {x : Str} {n : Nat} {S : Str → Bool} {Q : Value → Shared → Prop} (R : SetX (strK P w) s.heap a S n) (hS : ∀ k, S k = true → k = x) (hh : A.handled = none)
    (hQ : ∀ s' p (out : Array Value) (c : Nat) (xs : List Str), (∀ b o, s.heap.get? b = some o → s'.heap.get? b = some o) → s'.gens = s.gens → s'.os = s.os → s.heap.objs.size ≤ p →
      s'.heap.get? p = some (seqObj "list" out c) → StrsAre out.toList xs → (xs = [] ∧ S x = false ∨ xs = [x] ∧ S x = true) → Q (.ref p) s') :
    wpAny (model P w) A (call (.builtin "sorted") [.ref a]) Q E s := by
  obtain ⟨o, es, ep, t, ho, hex, hd, g, nd, hm, hb, hf, hn, hr, hl⟩ := R
  have shape : ∀ v ∈ es.toList.map (fun e => e.2), ∃ tk, v = .str x tk := fun v hv => by
    obtain ⟨e, he, q⟩ := List.mem_map.mp hv
    obtain ⟨k, tk, h1, _⟩ := g e he
    have hk : k = x := hS k ((hm k).mpr (List.mem_map.mpr ⟨e, he, by unfold keyX; rw [h1]; rfl⟩))
    subst hk
    exact ⟨tk, by rw [← q]; exact h1⟩
  have allx : ∀ k ∈ es.toList.map (keyX (strK P w)), k = x := fun k hk => hS k ((hm k).mpr hk)
  have hlen : es.toList.length ≤ 1 := by
    have hl' : (es.toList.map (keyX (strK P w))).length ≤ 1 := by
      generalize es.toList.map (keyX (strK P w)) = l at nd allx
      match l, nd, allx with
      | [], _, _ => exact Nat.zero_le _
      | [_], _, _ => exact Nat.le_refl _
      | p :: q :: r, nd, al => exact absurd (by rw [al p (List.mem_cons_self ..), al q (List.mem_cons_of_mem _ (List.mem_cons_self ..))]; exact List.mem_cons_self ..) (List.nodup_cons.mp nd).1
    rw [List.length_map] at hl'
    exact hl'
  refine Calls.call_function_entry kind_sorted plain_sorted entry_sorted (args_sorted1 _) ?_
  unfold Builtin.«sorted»
  refine wpAny_bind (m := checkCount "sorted" 1 1 _) (wpAny_pure ?_)
  refine wpAny_bind (collect_set (A := A.in1) hh ⟨o, ho, hex.1, hd⟩ hf hb hr hl fun s1 vs k1 hz g1 o1 pm => ?_)
  have hvl : vs.length = es.toList.length := by rw [pm.length_eq, List.length_map]
  have hI : StrsAre vs (vs.map fun _ => x) := by
    have : ∀ v ∈ vs, ∃ tk, v = .str x tk := fun v hv => shape v (pm.mem_iff.mp hv)
    clear pm hvl
    induction vs with
    | nil => exact .nil
    | cons v vs ih =>
      obtain ⟨tk, rfl⟩ := this _ (List.mem_cons_self ..)
      exact .cons x tk (ih fun v hv => this v (List.mem_cons_of_mem _ hv))
  refine wpAny_bind (wpAny_newList ?_ (by rw [hvl, sizeLine_eq]; omega))
  have hoL : (s1.heap.push (seqObj "list" vs.toArray 0)).get? s1.heap.objs.size = some (seqObj "list" vs.toArray 0) := Heap.get?_push_size _ rfl
  refine wpAny_bind (wpAny_holding (wpAny_call_entry slot_list_sort ⟨_, hoL, rfl⟩ entry_list_sort (list_sort_treeK strKind_oneLt hoL hI.keysOf (fun v1 v2 rest e => keyKind_strs (by rw [← e]; exact hI)) (by rw [hvl]; omega) fun st' hp hs => ⟨_, rfl, ?_⟩) (args_list_sort _)))
  obtain ⟨ss', b1, b2, b3⟩ := sorted_out_str hI hp hs
  obtain ⟨c, hc⟩ := sortedHeap_at (vs := vs) (out := (arrOf st').map (·.2)) hoL
  refine wpAny_pure ⟨_, rfl, hQ _ s1.heap.objs.size _ c ss' (fun b u e => ?_) g1 o1 hz hc b1 ?_⟩
  · have q := k1 b u e
    have hlt := Heap.lt_size q
    show (sortedHeap (s1.heap.push (seqObj "list" vs.toArray 0)) s1.heap.objs.size vs _).get? b = some u
    rw [sortedHeap_old (Nat.ne_of_lt hlt) (by rw [size_push']; exact Nat.lt_succ_of_lt hlt)]
    exact Heap.get?_push_of_some _ q
  · have hl2 : ss'.length = es.toList.length := by rw [b2.length_eq, List.length_map]; exact hvl
    match hes : es.toList, hlen with
    | [], _ =>
      rw [hes] at hl2 hm
      left
      refine ⟨List.length_eq_zero_iff.mp hl2, ?_⟩
      cases q : S x with
      | false => rfl
      | true => exact nomatch (hm x).mp q
    | [e], _ =>
      rw [hes] at hl2 hm allx
      right
      have hx : keyX (strK P w) e = x := allx _ (List.mem_cons_self ..)
      refine ⟨?_, (hm x).mpr (by rw [← hx]; exact List.mem_cons_self ..)⟩
      match hss : ss', hl2 with
      | [y], _ =>
        have : y ∈ vs.map fun _ => x := b2.mem_iff.mp (List.mem_cons_self ..)
        obtain ⟨_, _, e⟩ := List.mem_map.mp this
        rw [e]
end
end Qr

/-! #### Qv -/
set_option maxHeartbeats 4000000
/-! sorted(set(list)) as a reading, and over data. -/
namespace Qr
open PySem PySem.Spec PyProof.Rows L2
section
variable {X : Cx} {pins : List (Addr × Obj)} {σ : L2.St} {H : Hp} {s : Shared}
def SetOx (w : World) (a : Addr) (P : Program) (S : Str → Bool) (n : Nat) : HO := .ext fun h => SetX (strK P w) h a S n
theorem setOx_new {w : World} {P : Program} {H : Hp} {h : Heap} {a : Addr} {S : Str → Bool} {n : Nat} (R : SetX (strK P w) h a S n) : ObjOk P w H h a (SetOx w a P S n) := by
  have ⟨o, _, _, _, ho, _⟩ := R
  exact ⟨R, ⟨o, ho⟩, fun h1 h2 p k => SetX.at p k⟩
theorem setOx_get {a : Addr} {S : Str → Bool} {n : Nat} (I : Inv X pins σ H s) (ha : H a = some (SetOx X.w a X.prog S n)) : SetX (strK X.prog X.w) s.heap a S n := (I.hok a _ ha).1
def rSetLI (K : PySem.W.Frag) (w : World) : List V → Hp → VK → Prop := fun xs H Q => ∃ (a : Addr) (ns : List Int), xs = [.ref a] ∧ SqL K H a (ns.map V.int) ∧ ns.length < 64 ∧
  ∀ p n, H p = none → n ≤ ns.length → Q (.ref p) (upd H p (SetO w p (fun j => decide (j ∈ ns)) n))
def rSetLS (K : PySem.W.Frag) (w : World) (P : Program) : List V → Hp → VK → Prop := fun xs H Q => ∃ (a : Addr) (ns : List Str), xs = [.ref a] ∧ SqL K H a (ns.map V.str) ∧ ns.length < 1000 ∧
  ∀ p n, H p = none → n ≤ ns.length → Q (.ref p) (upd H p (SetOx w p P (fun j => decide (j ∈ ns)) n))
theorem vals_kinds {α : Type} {f : α → V} {g : α → Tok → Value} (hf : ∀ k u, RelV (f k) u → ∃ t, u = g k t) : ∀ {ns : List α} {its : List Value}, Vals (ns.map f) its → its.length = ns.length ∧ ∀ (i : Nat) (v : Value), its[i]? = some v → ∃ k t, ns[i]? = some k ∧ v = g k t
  | [], its, h => by
    cases h
    exact ⟨rfl, fun i v h => by simp at h⟩
  | k :: ns, its, h => by
    cases h with
    | cons r t =>
      obtain ⟨l, hh⟩ := vals_kinds hf t
      refine ⟨by rw [List.length_cons, List.length_cons, l], fun i v hv => ?_⟩
      cases i with
      | zero =>
        obtain ⟨t, e⟩ := hf k _ r
        have hv : some _ = some v := hv
        cases hv
        exact ⟨k, t, rfl, e⟩
      | succ i => exact hh i v (by simpa using hv)
theorem cr_setLI (hc : X.calm = true) : CallR X (.type "set") (rSetLI X.K X.w) := by
  intro pins s σ H xs us Q I r h
  obtain ⟨a, ns, rfl, hs, h64, q⟩ := h
  obtain ⟨its, rv, pl, hz⟩ := I.list hs
  rw [Vals.ref1 r]
  obtain ⟨hl, hv⟩ := vals_kinds (f := V.int) (g := fun k t => .int k t) (fun k u hu => hu) rv
  refine call_setX (B := intK X.prog X.w) ns (I.ok.hd hc) pl.isList (by simpa using hl) (fun i v e => hv i v (by simpa using e)) (by unfold scanBound; omega) fun h' tk c hS hcn hk => ?_
  exact ⟨.ref _, upd H s.heap.objs.size (SetO X.w s.heap.objs.size (fun j => decide (j ∈ ns)) c), I.laid (t' := tk) (fun b u e => hk b u e) (Nat.le_refl _) (setO_new (setX_R hS)), rfl, q _ c (I.hok.fresh (Nat.le_refl _)) hcn⟩
theorem cr_setLS (hc : X.calm = true) : CallR X (.type "set") (rSetLS X.K X.w X.prog) := by
  intro pins s σ H xs us Q I r h
  obtain ⟨a, ns, rfl, hs, h64, q⟩ := h
  obtain ⟨its, rv, pl, hz⟩ := I.list hs
  rw [Vals.ref1 r]
  obtain ⟨hl, hv⟩ := vals_kinds (f := V.str) (g := fun k t => .str k t) (fun k u hu => hu) rv
  refine call_setX (B := strK X.prog X.w) ns (I.ok.hd hc) pl.isList (by simpa using hl) (fun i v e => hv i v (by simpa using e)) (by unfold scanBound; omega) fun h' tk c hS hcn hk => ?_
  exact ⟨.ref _, upd H s.heap.objs.size (SetOx X.w s.heap.objs.size X.prog (fun j => decide (j ∈ ns)) c), I.laid (t' := tk) (fun b u e => hk b u e) (Nat.le_refl _) (setOx_new hS), rfl, q _ c (I.hok.fresh (Nat.le_refl _)) hcn⟩
def rSortS1 (w : World) (P : Program) : List V → Hp → VK → Prop := fun vs H Q => ∃ (a : Addr) (S : Str → Bool) (n : Nat) (x : Str), vs = [V.ref a] ∧ H a = some (SetOx w a P S n) ∧ (∀ k, S k = true → k = x) ∧
  ∀ p, H p = none → Q (.ref p) (upd H p (.lst (if S x then [.str x] else [])))
theorem cr_sortS1 (hc : X.calm = true) : CallR X (.builtin "sorted") (rSortS1 X.w X.prog) := by
  intro pins s σ H vs us Q I r h
  obtain ⟨a, S, n, x, rfl, ha, hS, q⟩ := h
  have R := setOx_get I ha
  rw [Vals.ref1 r]
  refine sorted_set1 R hS (I.ok.hd hc) fun s' p out c xs k g o hp hg hi hxs => ?_
  have hx : xs.map V.str = if S x then [V.str x] else [] := by
    rcases hxs with ⟨e, e2⟩ | ⟨e, e2⟩
    · rw [e, e2]; rfl
    · rw [e, e2]; rfl
  have hlen : (xs.map V.str).length ≤ sizeLine := by rw [hx, sizeLine_eq]; split <;> simp
  have hn : H p = none := I.hok.fresh hp
  have J : Inv X pins σ (upd H p (.lst (xs.map V.str))) { s with heap := s'.heap, gens := s'.gens, drawn := s'.drawn, toks := s'.toks } :=
    I.call (ch := []) (Un.laid k hp hn) (I.hok.laid k hp ⟨hlen, out.toList, c, vals_of_strs hi, hg⟩) (by rw [g]; exact I.bare) (fun _ z => nomatch z)
  have e : s' = { s with heap := s'.heap, gens := s'.gens, drawn := s'.drawn, toks := s'.toks } := by
    cases s'
    cases s
    cases o
    rfl
  rw [e]
  refine ⟨.ref p, _, J, rfl, ?_⟩
  rw [hx]
  exact q p hn
end
/-- sorted(set(e)) -/
def rSetX (K : PySem.W.Frag) (w : World) (P : Program) : List V → Hp → VK → Prop := fun x H Q => rSetLI K w x H Q ∨ rSetLS K w P x H Q
def rSortX (w : World) (P : Program) : List V → Hp → VK → Prop := fun x H Q => rSortedSet w x H Q ∨ rSortS1 w P x H Q
theorem cr_setX {X : Cx} (hc : X.calm = true) : CallR X (.type "set") (rSetX X.K X.w X.prog) := (cr_setLI hc).or (cr_setLS hc)
theorem cr_sortX {X : Cx} (hc : X.calm = true) : CallR X (.builtin "sorted") (rSortX X.w X.prog) := (cr_sortedSet hc).or (cr_sortS1 hc)
section
variable {K : PySem.W.Frag} {ρ : Sl} {M : Mem} {R : D → Mem → Prop} {te : TE} {w : World} {P : Program}
theorem evr_sortSetI (h : EvR K te ρ M fun x M1 => ∃ ns : List Int, Items M1 x true (ns.map D.int) ∧ ns.length < 64 ∧ ∀ ks : List Int, ks.Pairwise (· < ·) → (∀ k, k ∈ ks ↔ k ∈ ns) → R (.lst (ks.map D.int)) M1) :
    EvR K (tCB (rSortX w P) (tCons (tCB (rSetX K w P) (tCons te tNil)) tNil)) ρ M R := fun F0 H0 F H σ S W Q q =>
  h F0 H0 F H σ S W _ fun v x M1 F1 H1 e1 W1 r1 ⟨ns, it, h64, k⟩ => by
    obtain ⟨a, vs, rfl, r, hs⟩ := it.read W1 r1
    have e := r.ints
    subst e
    refine .inl ⟨a, ns, rfl, hs, h64, fun p n hp hn => ?_⟩
    obtain ⟨W2, e2⟩ := W1.new hp (SetO w p (fun j => decide (j ∈ ns)) n)
    refine .inl ⟨p, _, n, rfl, upd_same, by omega, fun ks p2 h1 h2 h3 hp2 => ?_⟩
    obtain ⟨W3, e3⟩ := W2.new hp2 (.lst (ks.map V.int))
    exact q _ _ _ _ _ (e1.trans (e2.trans e3)) W3 (.lst upd_same (reps_ints ks)) (k ks h1 fun j => by rw [h2 j, decide_eq_true_eq])
theorem reps_rep {F : Hp} {x : Str} : ∀ (n : Nat) {vs : List V}, Reps K F vs (List.replicate n (D.str x)) → vs = (List.replicate n x).map V.str
  | 0, _, r => by cases r; rfl
  | n + 1, _, r => by
    rw [List.replicate_succ] at r
    cases r with
    | cons r t => cases r; rw [reps_rep n t]; rfl
theorem evr_sortSetS {n : Nat} {x : Str} (h : EvR K te ρ M fun d M1 => Items M1 d true (List.replicate n (D.str x)) ∧ n < 1000 ∧ R (.lst (if n = 0 then [] else [.str x])) M1) :
    EvR K (tCB (rSortX w P) (tCons (tCB (rSetX K w P) (tCons te tNil)) tNil)) ρ M R := fun F0 H0 F H σ S W Q q =>
  h F0 H0 F H σ S W _ fun v d M1 F1 H1 e1 W1 r1 ⟨it, h64, k⟩ => by
    obtain ⟨a, vs, rfl, r, hs⟩ := it.read W1 r1
    have e : vs = (List.replicate n x).map V.str := reps_rep n r
    subst e
    refine .inr ⟨a, List.replicate n x, rfl, hs, by rw [List.length_replicate]; exact h64, fun p m hp hm => ?_⟩
    obtain ⟨W2, e2⟩ := W1.new hp (SetOx w p P (fun j => decide (j ∈ List.replicate n x)) m)
    refine .inr ⟨p, _, m, x, rfl, upd_same, fun k hk => (List.mem_replicate.mp (of_decide_eq_true hk)).2, fun p2 hp2 => ?_⟩
    have e : (if (decide (x ∈ List.replicate n x)) = true then [V.str x] else []) = if n = 0 then [] else [V.str x] := by
      by_cases h0 : n = 0
      · subst h0; rfl
      · rw [if_neg h0, if_pos (decide_eq_true (List.mem_replicate.mpr ⟨h0, rfl⟩))]
    show Q (.ref p2) (upd _ p2 (.lst (if (decide (x ∈ List.replicate n x)) = true then [V.str x] else [])))
    rw [e]
    obtain ⟨W3, e3⟩ := W2.new hp2 (.lst (if n = 0 then [] else [V.str x]))
    refine q _ _ _ _ _ (e1.trans (e2.trans e3)) W3 (.lst upd_same ?_) k
    by_cases h0 : n = 0
    · rw [if_pos h0, if_pos h0]; exact .nil
    · rw [if_neg h0, if_neg h0]; exact .one (.str x)
end
end Qr

/-! #### Qw -/
set_option maxHeartbeats 4000000
/-! A comprehension with two clauses, over data. -/
namespace Qr
open PySem L2
section
variable {K : PySem.W.Frag} {ρ : Sl} {M : Mem} {R : D → Mem → Prop} {te : TE}
theorem evr_lc2 {α β : Type} {wi wi1 : TI} {g g1 : TG} {is is1 vs vs1 : List Nat} (hi : ∀ i ∈ is, i ∈ vs) (hi1 : ∀ i ∈ is1, i ∈ vs1)
    (h : ItR K wi ρ M fun ds M1 => ∃ (xs : List α) (en : α → D) (ys : α → List β) (en1 : β → D) (f : α → β → D), ds = xs.map en ∧ (xs.flatMap fun x => (ys x).map (f x)).length ≤ 100000 ∧
      (∀ x ∈ xs, TgR g is K (en x) (wipeD ρ vs) fun ρ2 => (∀ M', ItR K wi1 ρ2 M' fun ds1 M2 => M2 = M' ∧ ds1 = (ys x).map en1) ∧ ∀ y ∈ ys x, TgR g1 is1 K (en1 y) (wipeD ρ2 vs1) fun ρ3 => EvR K te ρ3 M1 fun z M3 => M3 = M1 ∧ z = f x y) ∧
      R (.lst (xs.flatMap fun x => (ys x).map (f x))) M1) : EvR K (tLc2 wi g tYes wi1 g1 tYes te vs vs1) ρ M R := fun F0 H0 F H σ S W Q q =>
  h F0 H0 F H σ S W _ fun J ds M1 F1 H1 e1 W1 y ⟨xs, en, ys, en1, f, ed, hz, hs, hR⟩ Dl hD => by
    subst ed
    refine ⟨fun i m H' => m = xs.length - i ∧ i ≤ xs.length ∧ ∃ F', Ex F1 F' ∧ Wok K F0 H0 F' ((Dl, .lst ((xs.take i).flatMap fun x => (ys x).map (f x))) :: M1) H', ⟨xs.length, by simp, Nat.zero_le _, F1, Ex.refl _, W1.newO hD (.lst .nil)⟩, ?_⟩
    rintro i m H' ⟨rfl, hi', F', e', W'⟩
    obtain ⟨y1, y2⟩ := y _ F' H' e' W'
    by_cases hlt : i < xs.length
    · have hxi : xs[i]? = some xs[i] := List.getElem?_eq_getElem hlt
      have hxm : xs[i] ∈ xs := List.getElem_mem hlt
      generalize xs[i] = x at hxi hxm
      obtain ⟨g1', g2⟩ := y1 i (en x) (by rw [List.getElem?_map, hxi]; rfl)
      have htk : (xs.take (i + 1)).flatMap (fun x => (ys x).map (f x)) = (xs.take i).flatMap (fun x => (ys x).map (f x)) ++ (ys x).map (f x) := by
        rw [List.take_succ, hxi, List.flatMap_append]; simp
      have hbig : ((xs.take (i + 1)).flatMap fun x => (ys x).map (f x)).length ≤ 100000 := by
        refine Nat.le_trans ?_ hz
        conv => rhs; rw [← List.take_append_drop (i + 1) xs, List.flatMap_append, List.length_append]
        omega
      rw [htk, List.length_append, List.length_map] at hbig
      generalize (xs.take i).flatMap (fun x => (ys x).map (f x)) = acc at W' htk hbig g2
      refine .inr ⟨g1', fun H2 => ∃ F2, Ex F1 F2 ∧ Wok K F0 H0 F2 ((Dl, .lst ((xs.take (i + 1)).flatMap fun x => (ys x).map (f x))) :: M1) H2, fun H2 ⟨F2, z1, z2⟩ => ⟨xs.length - (i + 1), by omega, rfl, hlt, F2, z1, z2⟩, fun v H'' hy => ?_⟩
      rw [htk]
      obtain ⟨F'', e'', W'', rx⟩ := g2 v H'' hy
      have S2 : Sok K F'' (wipeD ρ vs) (wipe σ vs) := (S.mono (e1.trans (e'.trans e''))).wipe vs
      refine hs x hxm F'' H'' (wipe σ vs) v S2 W''.ex rx _ fun σ2 ρ2 w2 S3 ⟨it1, hin⟩ => ?_
      refine ⟨by rw [w2 vs hi, wipe_wipe fun i h => h], ?_⟩
      refine it1 _ F0 H0 F'' H'' σ2 S3 W'' _ fun J1 ds1 M2 F4 H4 e4 W4 y4 ⟨em, ed1⟩ => ?_
      subst em; subst ed1
      refine ⟨fun j k H' => k = (ys x).length - j ∧ j ≤ (ys x).length ∧ ∃ F', Ex F4 F' ∧ Wok K F0 H0 F' ((Dl, .lst (acc ++ ((ys x).take j).map (f x))) :: M1) H', ⟨(ys x).length, by simp, Nat.zero_le _, F4, Ex.refl _, by simpa using W4⟩, ?_⟩
      rintro j k H' ⟨rfl, hj, F5, e5, W5⟩
      obtain ⟨z1, z2⟩ := y4 _ F5 H' e5 W5
      by_cases hjl : j < (ys x).length
      · have hyj : (ys x)[j]? = some (ys x)[j] := List.getElem?_eq_getElem hjl
        have hym : (ys x)[j] ∈ ys x := List.getElem_mem hjl
        generalize (ys x)[j] = y0 at hyj hym
        obtain ⟨k1, k2⟩ := z1 j (en1 y0) (by rw [List.getElem?_map, hyj]; rfl)
        have htj : acc ++ ((ys x).take (j + 1)).map (f x) = (acc ++ ((ys x).take j).map (f x)) ++ [f x y0] := by
          rw [List.take_succ, hyj, List.map_append, List.append_assoc]; rfl
        have hlj : (acc ++ ((ys x).take j).map (f x)).length < 100000 := by
          rw [List.length_append, List.length_map, List.length_take]; omega
        generalize acc ++ ((ys x).take j).map (f x) = ac2 at W5 htj hlj k2
        refine .inr ⟨k1, fun H2 => ∃ F', Ex F4 F' ∧ Wok K F0 H0 F' ((Dl, .lst (acc ++ ((ys x).take (j + 1)).map (f x))) :: M1) H2, fun H2 ⟨F2, a1, a2⟩ => ⟨(ys x).length - (j + 1), by omega, rfl, hjl, F2, a1, a2⟩, fun v2 H6 hy2 => ?_⟩
        rw [htj]
        obtain ⟨F6, e6, W6, rx1⟩ := k2 v2 H6 hy2
        have S4 : Sok K F6 (wipeD ρ2 vs1) (wipe σ2 vs1) := (S3.mono (e4.trans (e5.trans e6))).wipe vs1
        refine hin y0 hym F6 H6 (wipe σ2 vs1) v2 S4 W6.ex rx1 _ fun σ3 ρ3 w3 S5 ev => ?_
        refine ⟨by rw [w3 vs1 hi1, wipe_wipe fun i h => h], ?_⟩
        show te σ3 H6 _
        obtain ⟨u, hu, ro, h0, f0, W7⟩ := W6.hide
        refine ev F0 _ F6 H6 σ3 S5 W7 _ fun w d M5 F7 H7 e7 W8 r8 ⟨em, ez⟩ => ?_
        subst em; subst ez
        have W9 := W8.show h0 f0 (ro.mono e7)
        obtain ⟨u', hu', ro'⟩ := W9.at (List.mem_cons_self ..)
        cases ro' with
        | lst r => exact ⟨_, hu', by rw [r.length]; exact Nat.lt_of_lt_of_le hlj (by decide), F7, (e5.trans e6).trans e7, W9.write (.lst (r.append (.one r8)))⟩
      · have ej : j = (ys x).length := by omega
        subst ej
        rw [List.take_length] at W5
        exact .inl ⟨by simpa using z2, F5, ((e'.trans e'').trans e4).trans e5, W5⟩
    · have e : i = xs.length := by omega
      subst e
      refine .inl ⟨by simpa using y2, ?_⟩
      obtain ⟨u, W2, e2, ro, hu⟩ := W'.freeze
      rw [List.take_length] at ro
      cases ro with
      | lst r => exact q _ _ _ _ _ ((e1.trans e').trans e2) W2 (.lst hu r) hR
end
end Qr

/-! #### Qx -/
set_option maxHeartbeats 2000000
/-! Dicts whose keys are tuples: a display, dict(d), a walk of d.items(). -/
namespace Qr
open PySem PySem.Spec PyProof.Rows L2

/-! ### {t: v} -/
def tDispT (tk tv : TE) : TE := fun σ H Q => ∀ p, H p = none → tk σ (upd H p (.dT [])) fun x H1 => tv σ H1 fun y H2 => H2 p = some (.dT []) ∧ ∃ (ks : List L2.Key) (b : Addr), x = .ref b ∧ H2 b = some (.tup (ks.map kV)) ∧ Q (.ref p) (upd H2 p (.dT [(ks, y)]))
theorem pe_dispT {X : Cx} {pos : Pos} {ke ve : Expr} {tk tv : TE} (hu : X.A.units + 1 < cLine) (hk : PE X ke tk) (hv : PE X ve tv) : PE X (.Dict [some ke] [ve] pos) (tDispT tk tv) := by
  refine ⟨fun pins s σ H Q I q => ?_⟩
  have hn := I.hok.fresh (Nat.le_refl s.heap.objs.size)
  have I1 := I.laid (a := s.heap.objs.size) (o := .dT []) (h' := s.heap.push { cls := .type "dict", data := .dict #[] }) (t' := s.toks) (fun _ _ q => Heap.get?_push_of_some _ q) (Nat.le_refl _) (dt_empty s.heap I.big)
  have hpl := pairTrees_length [some ke] [ve] X.env pos rfl rfl
  rw [arm_eval_Dict, zip_pairTrees [some ke] [ve] X.env pos rfl rfl, dictDisplay_pairs (pairTrees [some ke] [ve] X.env pos) (fun e => by rw [e] at hpl; cases hpl) (by rw [hpl]; exact Nat.le_of_ble_eq_true rfl)]
  refine wpAny_bind (wpAny_standAt (wpAny_bind (wpAny_subDictH (knd := tupleKind (mixKind X.prog X.w)) (Q := fun d s' => wpAny (model X.prog X.w) X.A (pure (Value.ref d)) (EP X pins σ Q) X.xe s') (show X.A.units < cLine by omega) (by rw [hpl]; exact Nat.le_of_ble_eq_true rfl) ?_)))
  refine thn ((pps_cons hk hv pps_nil).run pins _ σ _ (fun ps H2 => match ps with
    | [(x, y)] => H2 s.heap.objs.size = some (.dT []) ∧ ∃ (ks : List L2.Key) (b : Addr), x = .ref b ∧ H2 b = some (.tup (ks.map kV)) ∧ Q (.ref s.heap.objs.size) (upd H2 s.heap.objs.size (.dT [(ks, y)]))
    | _ => False) I1 (q _ hn)) fun ws s2 ⟨ps, H2, I2, rel, q2⟩ => ?_
  cases rel with
  | nil => exact q2.elim
  | @cons p u ps' us' hp t =>
    cases t with
    | cons _ _ => exact q2.elim
    | nil =>
      obtain ⟨x, y⟩ := p
      obtain ⟨u1, u2⟩ := u
      obtain ⟨r1, r2⟩ := hp
      obtain ⟨e, ks, b, ex, hb, q3⟩ := q2
      have ex : x = .ref b := ex
      subst ex
      have r1 : u1 = Value.ref b := r1
      subst r1
      obtain ⟨z, hd, xs, rel, dd⟩ := dt_of I2.hok e
      cases rel
      refine ⟨[(ks, b, u2)], ⟨rfl, rfl, key_of I2.hok hb, True.intro⟩, dd, fun h' tk dd' hs => wpAny_pure ⟨.ref s.heap.objs.size, _, ?_, rfl, q3⟩⟩
      obtain ⟨o, es, ep, hq, h2, h3, h4, h5, h6⟩ := dd'
      refine d_write I2 (by rw [e]; exact True.intro) hs ⟨o, hq⟩ ⟨Nat.le_of_ble_eq_true rfl, hd, [(ks, b, u2)], .cons ⟨rfl, ?_, r2⟩ .nil, o, es, ep, hq, h2, h3, h4, h6⟩
      rw [upd_ne (ne_of hb e (fun z => nomatch z))]
      exact hb

/-! ### dict(d) -/
def rDictT (P : Program) (w : World) : List V → Hp → VK → Prop := fun xs H Q => ∃ (a : Addr) (kvs : List (List L2.Key × V)), xs = [.ref a] ∧ H a = some (.dT kvs) ∧ (kvs.map fun kv => (tupleKind (mixKind P w)).hash kv.1).Nodup ∧ ∀ p, H p = none → Q (.ref p) (upd H p (.dT kvs))
theorem kt_keys {H : Hp} : ∀ {kvs : List (List L2.Key × V)} {xs : List (List L2.Key × Addr × Value)}, KT H kvs xs → xs.map (·.1) = kvs.map (·.1)
  | _, _, .nil => rfl
  | _, _, .cons h t => by rw [List.map_cons, List.map_cons, kt_keys t, h.1]
theorem kt_tup {X : Cx} {pins : List (Addr × Obj)} {σ : L2.St} {H : Hp} {s : Shared} (I : Inv X pins σ H s) : ∀ {kvs : List (List L2.Key × V)} {xs : List (List L2.Key × Addr × Value)}, KT H kvs xs → ∀ x ∈ xs, s.TypeIs (.ref x.2.1) "tuple"
  | _, _, .nil, x, hx => by cases hx
  | _, _, .cons (a := p) (b := q) h t, x, hx => by
    rcases List.mem_cons.mp hx with e | hx
    · subst e
      obtain ⟨_, its, _, o, h1, h2, _⟩ := (show ObjOk X.prog X.w H s.heap x.2.1 (.tup (p.1.map kV)) from I.hok _ _ h.2.1)
      exact ⟨o, h1, h2⟩
    · exact kt_tup I t x hx
theorem call_dictT {X : Cx} (hu : X.A.units + 64 < cLine) : CallR X (.type "dict") (rDictT X.prog X.w) := by
  intro pins s σ H xs us Q I r q
  obtain ⟨a, kvs, ex, ha, nd, q⟩ := q
  subst ex
  obtain rfl := Vals.ref1 r
  obtain ⟨z, hd, ys, rel, dd⟩ := dt_of I.hok ha
  have hz : ys.length ≤ sizeLine := by rw [← Paired.length rel]; exact z
  have hty := kt_tup I rel
  have hap : (ys.map fun x => (tupleKind (mixKind X.prog X.w)).hash x.1).Nodup := by
    have e : ys.map (fun x => (tupleKind (mixKind X.prog X.w)).hash x.1) = kvs.map fun kv => (tupleKind (mixKind X.prog X.w)).hash kv.1 := by
      have := congrArg (List.map (tupleKind (mixKind X.prog X.w)).hash) (kt_keys rel)
      rw [List.map_map, List.map_map] at this
      exact this
    rw [e]; exact nd
  refine callType_codes (Q₁ := fun obj s₁ => obj = .ref s.heap.objs.size ∧ s₁ = { s with heap := s.heap.push { cls := .type "dict", data := .dict #[] } }) PySem.F.kt_called_dict (PySem.F.kt_typeCall_dict_1 _) PySem.F.entry_dict_init (kt_code_dict_new _ ⟨rfl, rfl⟩) ?_
  rintro obj s₁ ⟨rfl, rfl⟩
  have k0 : ∀ b o, s.heap.get? b = some o → (s.heap.push { cls := .type "dict", data := .dict #[] }).get? b = some o := fun b o e => Heap.get?_push_of_some _ e
  have I1 := I.laid (a := s.heap.objs.size) (o := .dT []) (h' := s.heap.push { cls := .type "dict", data := .dict #[] }) (t' := s.toks) k0 (Nat.le_refl _) (dt_empty s.heap I.big)
  obtain ⟨_, hd1, ys1, rel1, dd1⟩ := dt_of I1.hok upd_same
  cases rel1
  have hne : a ≠ s.heap.objs.size := Nat.ne_of_lt (I.hok.lt ha)
  obtain ⟨o, es, ep, h1, h2, h3, h4, h5, h6⟩ := id dd
  have ddk : (s.heap.push { cls := .type "dict", data := .dict #[] }).DictOfH (tupleKind (mixKind X.prog X.w)) a ys := by
    refine ⟨o, es, ep, k0 _ _ h1, h2, h3, h4, fun x hx => ?_, h6⟩
    obtain ⟨oo, items, n, e1, e2, e3, e4⟩ := (show IsTupleKey (mixKind X.prog X.w) s.heap x.1 x.2.1 from h5 x hx)
    exact ⟨oo, items, n, k0 _ _ e1, e2, e3, e4⟩
  refine ⟨dd1.typeIs, PySem.F.args_dict_init_2 _ _, ?_⟩
  unfold Builtin.«dict.__init__»
  refine wpAny_bind ?_
  unfold Builtin.Dict.selfAndRest
  refine wpAny_bind (wpAny_notOrdered_dict dd1.typeIs ?_)
  show wpAny _ _ (pure (s.heap.objs.size, [Value.ref a])) _ _ _
  refine wpAny_pure ?_
  show wpAny _ _ (Builtin.Dict.updateFrom "dict.__init__" s.heap.objs.size (.ref a) [] .none) _ _ _
  refine updateFrom_dictH (R := wants (fun r s₂ => r = .none ∧ EP X pins σ Q (.ref s.heap.objs.size) s₂) X.xe) .none (tupleKind_room_in1 (show X.A.units + 1 + 1 < cLine by omega)) hne.symm hd dd1 ddk (.inr ⟨fun x hx => ?_, hap⟩) (by simpa using hz) fun h' dd' _ hs => ?_
  · obtain ⟨oo, e1, e2⟩ := hty x hx
    exact ⟨oo, k0 _ _ e1, e2⟩
  · refine ⟨rfl, .ref s.heap.objs.size, upd H s.heap.objs.size (.dT kvs), ?_, rfl, q _ (I.hok.fresh (Nat.le_refl _))⟩
    rw [storedAllH_nil_of_nodup ys h6] at dd'
    obtain ⟨o', es', ep', g1, g2, g3, g4, g5, g6⟩ := dd'
    have hn := I.hok.fresh (Nat.le_refl s.heap.objs.size)
    have new : ObjOk X.prog X.w (upd (upd H s.heap.objs.size (.dT [])) s.heap.objs.size (.dT kvs)) h' s.heap.objs.size (.dT kvs) := by
      refine ⟨z, hd1, ys, rel.keeps fun b zs e => ?_, o', es', ep', g1, g2, g3, g4, g6⟩
      rw [upd_upd, upd_ne (ne_of_none e hn)]
      exact e
    have I2 := d_write (t' := s.toks) I1 (by rw [upd_same]; exact True.intro) hs ⟨o', g1⟩ new
    rw [upd_upd] at I2
    exact I2

/-! ### d.items() -/
theorem frzTV {X : Cx} {pins : List (Addr × Obj)} {σ : L2.St} {H : Hp} {s : Shared} {d : Addr} {o : Obj} {kvs : List (List L2.Key × V)} (I : Inv X pins σ H s) (h : H d = some (.frz o (.dT kvs))) :
    (d == sysModules) = false ∧ s.heap.get? d = some o ∧ o.ExactDict ∧ ∃ (es : Array DictEntry) (ep : Nat), o.data = .dict es ep ∧ es.size = kvs.length ∧
      ∀ (i : Nat) (k : List L2.Key) (v : V), kvs[i]? = some (k, v) → ∃ (en : DictEntry) (q : Addr), es[i]? = some en ∧ en.key = .ref q ∧ H q = some (.tup (k.map kV)) ∧ RelV v en.val := by
  obtain ⟨hd, z, hs, xs, pr, o', es, ep, ho, hx, hdt, he, _⟩ := I.hok d _ h
  rw [hd] at ho
  cases ho
  refine ⟨hs, hd, hx, es, ep, hdt, ?_, fun i k v e => ?_⟩
  · have l1 : es.size = xs.length := size_of_entries he
    have l2 : kvs.length = xs.length := Paired.length pr
    omega
  · obtain ⟨b, hb, e1, e2, e3⟩ := paired_get pr e
    have q := entry_at he i
    rw [hb] at q
    exact ⟨_, b.2.1, q, rfl, e2, e3⟩
/-- the pairs of the locked dict at d, each a new tuple of the key's own tuple and the value -/
def ItiT (d : Addr) (o : Obj) (kvs : List (List L2.Key × V)) : It :=
  ⟨fun i H => H d = some (.frz o (.dT kvs)) ∧ i < kvs.length, fun i H x H' => ∃ T q k v, kvs[i]? = some (k, v) ∧ x = .ref T ∧ H T = none ∧ H q = some (.tup (k.map kV)) ∧ H' = upd H T (.tup [.ref q, v]), fun i H => H d = some (.frz o (.dT kvs)) ∧ kvs.length ≤ i⟩
section
variable {P : Program} {w : World} {K : PySem.W.Frag} {d : Addr} {o : Obj} {es : Array DictEntry} {ep : Nat}
theorem turn_itemsT {kvs : List (List L2.Key × V)} {elts : List Expr} {kk : Nat} {tpos : Pos} (it : Addr) (hod : o.data = .dict es ep) :
    Turn P w K (.Tuple elts kk tpos) (ItiT d o kvs) [it] it (fun i h => ∃ ok ov, IsItemIter h it d i kvs.length ep ok ov) where
  mem := by simp
  obj := fun i h st b hb => by
    have e : b = it := by simpa using hb
    subst e
    obtain ⟨ok, ov, e⟩ := st
    exact ⟨_, e, fun v z => nomatch z⟩
  keep := fun i h h' st k => let ⟨ok, ov, e⟩ := st; ⟨ok, ov, k it (by simp) _ e⟩
  item := by
    intro X hP hw hK hc i pins s σ H E I hf st hg
    subst hP hw hK
    obtain ⟨hd, hi⟩ := hg
    obtain ⟨hs, hgd, hx, es', ep', hdt, hsz, ent⟩ := frzTV I hd
    obtain ⟨rfl, rfl⟩ := dict_ep hod hdt
    obtain ⟨⟨k, v⟩, hkv⟩ : ∃ p, kvs[i]? = some p := ⟨kvs[i], List.getElem?_eq_getElem hi⟩
    obtain ⟨en, q, hen, hkey, hq, rv⟩ := ent i k v hkv
    obtain ⟨ok, ov, he⟩ := st
    rw [← hsz] at he
    have hlt : it < s.heap.objs.size := Heap.lt_size he
    have hies : i < es'.size := by rw [hsz]; exact hi
    have een : es'[i] = en := by
      rw [Array.getElem?_eq_getElem hies] at hen
      exact Option.some.inj hen
    refine DT.nextI he ⟨o, hgd, hx, hdt⟩ hies fun h' ho hT hz hk => ?_
    rw [een] at ho hT
    refine ⟨_, rfl, wpAny_letOwnedTupleGo_items (s := { s with heap := h' }) ho fun h'' he' sb => ?_⟩
    have hT2 : h''.get? s.heap.objs.size = some { cls := .type "tuple", data := .seq #[en.key, en.val] } := (sb.2 _ (Nat.ne_of_gt hlt)).trans hT
    have new : ObjOk X.prog X.w (upd H s.heap.objs.size (.tup [.ref q, v])) h'' s.heap.objs.size (.tup [.ref q, v]) :=
      ⟨by show 2 ≤ sizeLine; decide, [en.key, en.val], .cons (show RelV (.ref q) en.key by rw [hkey]; exact rfl) (.cons rv .nil), ⟨_, hT2, rfl, _, rfl⟩⟩
    have I1 : Inv X pins σ (upd H s.heap.objs.size (.tup [.ref q, v])) { s with heap := h'' } :=
      I.turnedNew (t' := s.toks) (ch := [it]) (fun b ob hb e => (sb.2 b (by simpa using hb)).trans (hk b ob (by simpa using hb) e)) hf (Nat.le_refl _) new
    refine ⟨.ref s.heap.objs.size, _, I1, rfl, ⟨_, q, k, v, hkv, rfl, I.hok.fresh (Nat.le_refl _), hq, rfl⟩, ⟨en.key, en.val, ?_⟩, fun b hb => ?_⟩
    · rw [← hsz]; exact he'
    · have e : b = it := by simpa using hb
      rw [e, upd_ne (Nat.ne_of_lt hlt)]
      exact (hf it (by simp)).1
  done := by
    intro X hP hw hK hc i pins s σ H E I hf st hg
    subst hP hw hK
    obtain ⟨hd, hi⟩ := hg
    obtain ⟨f0, f1, f2, f3, f4, f5⟩ := hf it (by simp)
    obtain ⟨hs, hgd, hx, es', ep', hdt, hsz, ent⟩ := frzTV I hd
    obtain ⟨rfl, rfl⟩ := dict_ep hod hdt
    obtain ⟨ok, ov, he⟩ := st
    rw [← hsz] at he
    exact DT.endI (I.ok.hd hc) he ⟨o, hgd, hx, hdt⟩ (by rw [hsz]; exact hi) fun h' eb => ⟨rfl, I.turned (t' := s.toks) (fun b ob hb e => eb b ob hb e) f0 f1 f3 f4 f5⟩
  self := fun A i s Q E st h => let ⟨_, _, e⟩ := st; PySem.W.kcp_self e h
end
def iItemsT (td : TE) : TI := fun σ H R => td σ H fun x H1 => ∃ d o kvs, x = .ref d ∧ H1 d = some (.frz o (.dT kvs)) ∧ R (ItiT d o kvs) H1
theorem pi_itemsT {X : Cx} {e : Expr} {td : TE} {apos cpos : Pos} {elts : List Expr} {kk : Nat} {tpos : Pos} (he : PE X e td) (hbase : attributeBase e "items" X.env (eval e X.env) = eval e X.env := by rfl) (hline : (apos.endLine == cpos.line) = true := by rfl) :
    PI X (.Tuple elts kk tpos) (.Call (.Attribute e "items" apos) [] [] cpos) (iItemsT td) := by
  refine ⟨fun pins s σ H R I h => ?_⟩
  refine wpAny_Call_method (T := "dict") (id := "dict.items") hbase rfl hline PySem.F.plainAttrs_dict PySem.F.slot_dict_items PySem.F.type_dict_items (thn (he.run pins s σ H _ I h) fun u s1 ⟨x, H1, I1, rx, d, o, kvs, ex, hd, q⟩ => ?_)
  subst ex
  obtain rfl : u = Value.ref d := rx
  obtain ⟨hs, hgd, hx, es, ep, hdt, hsz, ent⟩ := frzTV I1 hd
  have raw : DT.Raw s1.heap d es ep := ⟨o, hgd, hx, hdt⟩
  refine ⟨raw.typeIs, fun b q => ?_, ?_⟩
  · cases q
    exact ⟨o, hgd, hx.2.1⟩
  have I2 : Inv X pins σ H1 { s1 with heap := s1.heap.push { cls := .type "dict_items", data := .fields #[.ref d] } } := I1.kept (t' := s1.toks) fun b ob q => Heap.get?_push_of_some _ q
  have fin : wpAny (model X.prog X.w) X.A (pyIter (.ref s1.heap.objs.size)) (PIE X pins σ (.Tuple elts kk tpos) R) X.xe { s1 with heap := s1.heap.push { cls := .type "dict_items", data := .fields #[.ref d] } } := by
    refine DT.iterI (d := d) ⟨_, Heap.get?_push_size _ rfl, rfl, rfl⟩ (raw.push _) (pi_one (tk := s1.toks) I2 _ (turn_itemsT _ hdt) ⟨.none, .none, ?_⟩ q)
    rw [← hsz]
    exact Heap.get?_push_size _ rfl
  show wpAny _ _ (callWith cpos (.builtin "dict.items") [.ref d] [] []) _ X.xe s1
  exact method_meetsIn PySem.F.slot_dict_items PySem.F.entry_dict_items rfl (PySem.evalArgs_none ⟨rfl, raw.typeIs, PySem.F.args_dict_items_1 _, _, DT.meetsItems (es := es) (ep := ep) hs, raw, fin⟩)
end Qr

/-! #### Qda -/
set_option maxHeartbeats 4000000
/-! Derivations. Printed by gen2.py. -/
namespace Qr
open PySem PySem.Spec PyProof.Rows L2

theorem sc_is_number : FnScope ["thing"] ["thing"] (defScope s_is_number) := ⟨rfl, rfl, rfl, by decide +kernel, rfl, by decide +kernel, by decide +kernel⟩
theorem b_is_number (kV doc pm : Value) (an : Option Addr) (cdv ct : Value) (us : List Value) (hl : us.length = 1) : bindArgs (PySem.W.fnOf "is_number" "is_number" (defArgs s_is_number) (defBody s_is_number) (defScope s_is_number) .none kV doc pm an cdv ct) ⟨us, []⟩ = pure ((["thing"] : List Str).zip us) := match us, hl with | [_], _ => rfl
def t_is_number (P : Program) (w : World) (K : PySem.W.Frag) (mg : Str → Option Value) (base : Heap) (j : Nat) : TS := tRet (tAndV (tCB (rIsi K) (tCons (tVar 0) (tCons (tC (.ty "int")) tNil))) (tNotV (tCB (rIsi K) (tCons (tVar 0) (tCons (tC (.ty "bool")) tNil)))))
theorem d_is_number {P : Program} {w : World} {K : PySem.W.Frag} {mg : Str → Option Value} {base : Heap} (T : Tx K mg) {j : Nat} {f : Addr} {cdv : Value} {A : Around} {outer : List Env} {s : Shared} {H : Hp} {E : XK} (hr : Room j (A.deeper (envOfC "is_number" (defScope s_is_number) s.heap.objs.size f cdv))) :
    PSs (cxOf C0 P w K mg base ["thing"] "is_number" (defScope s_is_number) f cdv A outer s H E).nox (defBody s_is_number) (t_is_number P w K mg base j) := by
  exact pss_one (ps_ret (pe_and (pe_callB call_isi (by rfl) T.free_isinstance PyProof.Rows.boot_isinstance (pa_cons (pv 0) (pa_cons (pe_bltn (v := .ty "int") (by rfl) T.free_int PyProof.Rows.boot_int rfl) pa_nil))) (pe_one (pe_not (pe_callB call_isi (by rfl) T.free_isinstance PyProof.Rows.boot_isinstance (pa_cons (pv 0) (pa_cons (pe_bltn (v := .ty "bool") (by rfl) T.free_bool PyProof.Rows.boot_bool rfl) pa_nil)))))))
theorem sc_check_stream : FnScope ["stream", "place", "time"] ["stream"] (defScope s_check_stream) := ⟨rfl, rfl, rfl, by decide +kernel, rfl, by decide +kernel, by decide +kernel⟩
theorem b_check_stream (kV doc pm : Value) (an : Option Addr) (cdv ct : Value) (us : List Value) (hl : us.length = 1) : bindArgs (PySem.W.fnOf "check_stream" "check_stream" (defArgs s_check_stream) (defBody s_check_stream) (defScope s_check_stream) .none kV doc pm an cdv ct) ⟨us, []⟩ = pure ((["stream"] : List Str).zip us) := match us, hl with | [_], _ => rfl
def t_check_stream (P : Program) (w : World) (K : PySem.W.Frag) (mg : Str → Option Value) (base : Heap) (j : Nat) : TS := tSeq (tIfS (tNot (tTruV K (tCB (rIsiT K) (tCons (tVar 0) (tCons (tTup (tCons (tC (.ty "list")) (tCons (tC (.ty "tuple")) tNil))) tNil))))) tNever tNext) (tFor (iEnumX K (tCons (tVar 0) tNil)) (gTup K 2 (gCons (gName 1) (gCons (gName 2) gNil))) (tIfS (tOr (tNot (tTruV K (tCallX P w K mg base j "is_number" (tCons (tVar 2) tNil)))) (tAnd (tTest (tOp (rI0 fun i j => .bl (decide (j < i))) (tVar 1) (tC (.int 0)))) (tTest (tOp (rI0 fun i j => .bl (decide (i ≤ j))) (tVar 2) (tOp (rIx K) (tVar 0) (tOp (rI0 fun i j => .int (i - j)) (tVar 1) (tC (.int 1)))))))) tNever tNext))
theorem d_check_stream {P : Program} {w : World} {K : PySem.W.Frag} {mg : Str → Option Value} {base : Heap} (T : Tx K mg) {j : Nat} {f : Addr} {cdv : Value} {A : Around} {outer : List Env} {s : Shared} {H : Hp} {E : XK} (hr : Room j (A.deeper (envOfC "check_stream" (defScope s_check_stream) s.heap.objs.size f cdv))) :
    PSs (cxOf C0 P w K mg base ["stream", "place", "time"] "check_stream" (defScope s_check_stream) f cdv A outer s H E).nox (defBody s_check_stream) (t_check_stream P w K mg base j) := by
  exact pss_cons (ps_if (pt_not (pt_truth (pe_callB call_isiT (by rfl) T.free_isinstance PyProof.Rows.boot_isinstance (pa_cons (pv 0) (pa_cons (pe_tup (pa_cons (pe_bltn (v := .ty "list") (by rfl) T.free_list PyProof.Rows.boot_list rfl) (pa_cons (pe_bltn (v := .ty "tuple") (by rfl) T.free_tuple PyProof.Rows.boot_tuple rfl) pa_nil))) pa_nil))) (by intro _; rfl))) (pss_one ps_never) pss_nil) (pss_one (ps_for PassesOwn.never rfl (pi_enumX (by rfl) T.free_enumerate (pa_cons (pv 0) pa_nil)) (pg_tup rfl (pgs_cons (pg_name (i := 1) sc_check_stream.nd rfl (Or.inl rfl)) (pgs_cons (pg_name (i := 2) sc_check_stream.nd rfl (Or.inl rfl)) pgs_nil))) (pss_one (ps_if (PW.pt (pw_or (pt_not (pt_truth (pe_cx hr (by rfl) (pa_cons (pv 2) pa_nil) (hm := T.hm_is_number)) (by intro _; rfl))) (pw_or1 (PW.pt (pw_and (pt_cmpR op_gt (pv 1) pe_int (by rfl)) (pw_and1 (pt_cmpR op_le (pv 2) (pe_ix ix_seq (pv 0) (pe_op op_sub (pv 1) pe_int) (fun _ _ => rfl)) (by rfl)))))))) (pss_one ps_never) pss_nil))))
theorem sc_MemberD__initD_ : FnScope ["self", "q"] ["self", "q"] (defScope s_Member_D_initD_) := ⟨rfl, rfl, rfl, by decide +kernel, rfl, by decide +kernel, by decide +kernel⟩
theorem b_MemberD__initD_ (kV doc pm : Value) (an : Option Addr) (cdv ct : Value) (us : List Value) (hl : us.length = 2) : bindArgs (PySem.W.fnOf "__init__" "Member.__init__" (defArgs s_Member_D_initD_) (defBody s_Member_D_initD_) (defScope s_Member_D_initD_) .none kV doc pm an cdv ct) ⟨us, []⟩ = pure ((["self", "q"] : List Str).zip us) := match us, hl with | [_, _], _ => rfl
def t_MemberD__initD_ (P : Program) (w : World) (K : PySem.W.Frag) (mg : Str → Option Value) (base : Heap) (j : Nat) : TS := tSeq (sFld K (tVar 0) (tVar 1) "q") (tIfS (tOr (tNot (tTruV K (tCallX P w K mg base j "is_number" (tCons (tVar 1) tNil)))) (tTest (tOp (rI0 fun i j => .bl (decide (i < j))) (tVar 1) (tC (.int 1))))) tNever tNext)
theorem d_MemberD__initD_ {P : Program} {w : World} {K : PySem.W.Frag} {mg : Str → Option Value} {base : Heap} (T : Tx K mg) {j : Nat} {f : Addr} {cdv : Value} {A : Around} {outer : List Env} {s : Shared} {H : Hp} {E : XK} (hr : Room j (A.deeper (envOfC "Member.__init__" (defScope s_Member_D_initD_) s.heap.objs.size f cdv))) :
    PSs (cxOf C0 P w K mg base ["self", "q"] "Member.__init__" (defScope s_Member_D_initD_) f cdv A outer s H E).nox (defBody s_Member_D_initD_) (t_MemberD__initD_ P w K mg base j) := by
  exact pss_cons (ps_fld (pv 0) (pv 1) rfl) (pss_one (ps_if (PW.pt (pw_or (pt_not (pt_truth (pe_cx hr (by rfl) (pa_cons (pv 1) pa_nil) (hm := T.hm_is_number)) (by intro _; rfl))) (pw_or1 (pt_cmpR op_lt (pv 1) pe_int (by rfl))))) (pss_one ps_never) pss_nil))
theorem sc_Last.kept : FnScope ["self", "stream", "count", "at"] ["self", "stream"] (defScope s_Last_kept) := ⟨rfl, rfl, rfl, by decide +kernel, rfl, by decide +kernel, by decide +kernel⟩
theorem b_Last.kept (kV doc pm : Value) (an : Option Addr) (cdv ct : Value) (us : List Value) (hl : us.length = 2) : bindArgs (PySem.W.fnOf "kept" "Last.kept" (defArgs s_Last_kept) (defBody s_Last_kept) (defScope s_Last_kept) .none kV doc pm an cdv ct) ⟨us, []⟩ = pure ((["self", "stream"] : List Str).zip us) := match us, hl with | [_, _], _ => rfl
def t_Last.kept (P : Program) (w : World) (K : PySem.W.Frag) (mg : Str → Option Value) (base : Heap) (j : Nat) : TS := tSeq (tAsg (tCB (rLenA K) (tCons (tVar 1) tNil)) (gName 2)) (tRet (tLc (iRng1 (tCons (tVar 2) tNil)) (gName 3) (tOr (tTest (tOp (rEqX K) (tOp (rAddX K) (tVar 3) (tC (.int 1))) (tVar 2))) (tTest (tOp (rI0 fun i j => .bl (decide (j ≤ i))) (tOp (rI0 fun i j => .int (i - j)) (tOp (rIx K) (tVar 1) (tOp (rAddX K) (tVar 3) (tC (.int 1)))) (tOp (rIx K) (tVar 1) (tVar 3))) (tFld K (tVar 0) "q")))) (tVar 3) [3]))
theorem d_Last.kept {P : Program} {w : World} {K : PySem.W.Frag} {mg : Str → Option Value} {base : Heap} (T : Tx K mg) {j : Nat} {f : Addr} {cdv : Value} {A : Around} {outer : List Env} {s : Shared} {H : Hp} {E : XK} (hr : Room j (A.deeper (envOfC "Last.kept" (defScope s_Last_kept) s.heap.objs.size f cdv))) :
    PSs (cxOf C0 P w K mg base ["self", "stream", "count", "at"] "Last.kept" (defScope s_Last_kept) f cdv A outer s H E).nox (defBody s_Last_kept) (t_Last.kept P w K mg base j) := by
  exact pss_cons (ps_set (i := 2) sc_Last.kept.nd rfl (Or.inr rfl) (pe_callB call_len_seq (by rfl) T.free_len PySem.boot_len (pa_cons (pv 1) pa_nil))) (pss_one (ps_ret (pe_lc (own := [("at", 3)]) rfl sc_Last.kept.nd (pi_range1 (by rfl) T.free_range (pa_cons (pv 2) pa_nil)) (blkOk_by (N := ["self", "stream", "count", "at"]) (sc := defScope s_Last_kept) (by decide +kernel)) (fun _ _ _ _ _ => pg_name (i := 3) sc_Last.kept.nd rfl (Or.inl rfl)) (fun _ _ _ _ _ => pts_one (PW.pt (pw_or (pt_cmpR (op_eqX hr.units) (pe_op op_addX (pv 3) pe_int) (pv 2) (by rfl)) (pw_or1 (pt_cmpR op_ge (pe_op op_sub (pe_ix ix_seq (pv 1) (pe_op op_addX (pv 3) pe_int) (fun _ _ => rfl)) (pe_ix ix_seq (pv 1) (pv 3) (fun _ _ => rfl))) (pe_fld (pv 0) rfl) (by rfl)))))) (fun _ _ _ _ _ => pv 3))))
theorem sc_First.kept : FnScope ["self", "stream", "at"] ["self", "stream"] (defScope s_First_kept) := ⟨rfl, rfl, rfl, by decide +kernel, rfl, by decide +kernel, by decide +kernel⟩
theorem b_First.kept (kV doc pm : Value) (an : Option Addr) (cdv ct : Value) (us : List Value) (hl : us.length = 2) : bindArgs (PySem.W.fnOf "kept" "First.kept" (defArgs s_First_kept) (defBody s_First_kept) (defScope s_First_kept) .none kV doc pm an cdv ct) ⟨us, []⟩ = pure ((["self", "stream"] : List Str).zip us) := match us, hl with | [_, _], _ => rfl
def t_First.kept (P : Program) (w : World) (K : PySem.W.Frag) (mg : Str → Option Value) (base : Heap) (j : Nat) : TS := tRet (tLc (iRng1 (tCons (tCB (rLenA K) (tCons (tVar 1) tNil)) tNil)) (gName 2) (tOr (tTest (tOp (rEqX K) (tVar 2) (tC (.int 0)))) (tTest (tOp (rI0 fun i j => .bl (decide (j ≤ i))) (tOp (rI0 fun i j => .int (i - j)) (tOp (rIx K) (tVar 1) (tVar 2)) (tOp (rIx K) (tVar 1) (tOp (rI0 fun i j => .int (i - j)) (tVar 2) (tC (.int 1))))) (tFld K (tVar 0) "q")))) (tVar 2) [2])
theorem d_First.kept {P : Program} {w : World} {K : PySem.W.Frag} {mg : Str → Option Value} {base : Heap} (T : Tx K mg) {j : Nat} {f : Addr} {cdv : Value} {A : Around} {outer : List Env} {s : Shared} {H : Hp} {E : XK} (hr : Room j (A.deeper (envOfC "First.kept" (defScope s_First_kept) s.heap.objs.size f cdv))) :
    PSs (cxOf C0 P w K mg base ["self", "stream", "at"] "First.kept" (defScope s_First_kept) f cdv A outer s H E).nox (defBody s_First_kept) (t_First.kept P w K mg base j) := by
  exact pss_one (ps_ret (pe_lc (own := [("at", 2)]) rfl sc_First.kept.nd (pi_range1 (by rfl) T.free_range (pa_cons (pe_callB call_len_seq (by rfl) T.free_len PySem.boot_len (pa_cons (pv 1) pa_nil)) pa_nil)) (blkOk_by (N := ["self", "stream", "at"]) (sc := defScope s_First_kept) (by decide +kernel)) (fun _ _ _ _ _ => pg_name (i := 2) sc_First.kept.nd rfl (Or.inl rfl)) (fun _ _ _ _ _ => pts_one (PW.pt (pw_or (pt_cmpR (op_eqX hr.units) (pv 2) pe_int (by rfl)) (pw_or1 (pt_cmpR op_ge (pe_op op_sub (pe_ix ix_seq (pv 1) (pv 2) (fun _ _ => rfl)) (pe_ix ix_seq (pv 1) (pe_op op_sub (pv 2) pe_int) (fun _ _ => rfl))) (pe_fld (pv 0) rfl) (by rfl)))))) (fun _ _ _ _ _ => pv 2)))
theorem sc_Limit.kept : FnScope ["self", "stream", "found", "at", "time"] ["self", "stream"] (defScope s_Limit_kept) := ⟨rfl, rfl, rfl, by decide +kernel, rfl, by decide +kernel, by decide +kernel⟩
theorem b_Limit.kept (kV doc pm : Value) (an : Option Addr) (cdv ct : Value) (us : List Value) (hl : us.length = 2) : bindArgs (PySem.W.fnOf "kept" "Limit.kept" (defArgs s_Limit_kept) (defBody s_Limit_kept) (defScope s_Limit_kept) .none kV doc pm an cdv ct) ⟨us, []⟩ = pure ((["self", "stream"] : List Str).zip us) := match us, hl with | [_, _], _ => rfl
def t_Limit.kept (P : Program) (w : World) (K : PySem.W.Frag) (mg : Str → Option Value) (base : Heap) (j : Nat) : TS := tSeq (tAsg (tLst tNil) (gName 2)) (tSeq (tFor (iEnumX K (tCons (tVar 1) tNil)) (gTup K 2 (gCons (gName 3) (gCons (gName 4) gNil))) (tIfS (tOr (tTest (tOp (rEqX K) (tVar 2) (tLst tNil))) (tTest (tOp (rI0 fun i j => .bl (decide (j ≤ i))) (tOp (rI0 fun i j => .int (i - j)) (tVar 4) (tOp (rIx K) (tVar 1) (tOp (rIx K) (tVar 2) (tUn (rU fun i => .int (-i)) (tC (.int 1)))))) (tFld K (tVar 0) "q")))) (tDrop (tBM K "list" rAppend (tVar 2) (tCons (tVar 3) tNil))) tNext)) (tRet (tVar 2)))
theorem d_Limit.kept {P : Program} {w : World} {K : PySem.W.Frag} {mg : Str → Option Value} {base : Heap} (T : Tx K mg) {j : Nat} {f : Addr} {cdv : Value} {A : Around} {outer : List Env} {s : Shared} {H : Hp} {E : XK} (hr : Room j (A.deeper (envOfC "Limit.kept" (defScope s_Limit_kept) s.heap.objs.size f cdv))) :
    PSs (cxOf C0 P w K mg base ["self", "stream", "found", "at", "time"] "Limit.kept" (defScope s_Limit_kept) f cdv A outer s H E).nox (defBody s_Limit_kept) (t_Limit.kept P w K mg base j) := by
  exact pss_cons (ps_set (i := 2) sc_Limit.kept.nd rfl (Or.inl rfl) (pe_lst pa_nil)) (pss_cons (ps_for PassesOwn.never rfl (pi_enumX (by rfl) T.free_enumerate (pa_cons (pv 1) pa_nil)) (pg_tup rfl (pgs_cons (pg_name (i := 3) sc_Limit.kept.nd rfl (Or.inl rfl)) (pgs_cons (pg_name (i := 4) sc_Limit.kept.nd rfl (Or.inl rfl)) pgs_nil))) (pss_one (ps_if (PW.pt (pw_or (pt_cmpR (op_eqX hr.units) (pv 2) (pe_lst pa_nil) (by rfl)) (pw_or1 (pt_cmpR op_ge (pe_op op_sub (pv 4) (pe_ix ix_seq (pv 1) (pe_ix ix_seq (pv 2) (pe_un un_neg pe_int) (fun _ _ => rfl)) (fun _ _ => rfl))) (pe_fld (pv 0) rfl) (by rfl))))) (pss_one (ps_expr (pe_bm PySem.F.plainAttrs_list PySem.F.slot_list_append PySem.F.type_list_append mt_append (pv 2) (pa_cons (pv 3) pa_nil)))) pss_nil))) (pss_one (ps_ret (pv 2))))
theorem sc_Delay.kept : FnScope ["self", "stream"] ["self", "stream"] (defScope s_Delay_kept) := ⟨rfl, rfl, rfl, by decide +kernel, rfl, by decide +kernel, by decide +kernel⟩
theorem b_Delay.kept (kV doc pm : Value) (an : Option Addr) (cdv ct : Value) (us : List Value) (hl : us.length = 2) : bindArgs (PySem.W.fnOf "kept" "Delay.kept" (defArgs s_Delay_kept) (defBody s_Delay_kept) (defScope s_Delay_kept) .none kV doc pm an cdv ct) ⟨us, []⟩ = pure ((["self", "stream"] : List Str).zip us) := match us, hl with | [_, _], _ => rfl
def t_Delay.kept (P : Program) (w : World) (K : PySem.W.Frag) (mg : Str → Option Value) (base : Heap) (j : Nat) : TS := tRet (tLstRg (tRg1 (tCB (rLenA K) (tCons (tVar 1) tNil))))
theorem d_Delay.kept {P : Program} {w : World} {K : PySem.W.Frag} {mg : Str → Option Value} {base : Heap} (T : Tx K mg) {j : Nat} {f : Addr} {cdv : Value} {A : Around} {outer : List Env} {s : Shared} {H : Hp} {E : XK} (hr : Room j (A.deeper (envOfC "Delay.kept" (defScope s_Delay_kept) s.heap.objs.size f cdv))) :
    PSs (cxOf C0 P w K mg base ["self", "stream"] "Delay.kept" (defScope s_Delay_kept) f cdv A outer s H E).nox (defBody s_Delay_kept) (t_Delay.kept P w K mg base j) := by
  exact pss_one (ps_ret (pe_listRg rfl (by rfl) T.free_list (prg_1 (by rfl) T.free_range (pe_callB call_len_seq (by rfl) T.free_len PySem.boot_len (pa_cons (pv 1) pa_nil)))))
theorem sc_speakers : FnScope ["member", "amount", "kept", "found", "place", "at"] ["member", "amount", "kept"] (defScope s_speakers) := ⟨rfl, rfl, rfl, by decide +kernel, rfl, by decide +kernel, by decide +kernel⟩
theorem b_speakers (kV doc pm : Value) (an : Option Addr) (cdv ct : Value) (us : List Value) (hl : us.length = 3) : bindArgs (PySem.W.fnOf "speakers" "speakers" (defArgs s_speakers) (defBody s_speakers) (defScope s_speakers) .none kV doc pm an cdv ct) ⟨us, []⟩ = pure ((["member", "amount", "kept"] : List Str).zip us) := match us, hl with | [_, _, _], _ => rfl
def t_speakers (P : Program) (w : World) (K : PySem.W.Frag) (mg : Str → Option Value) (base : Heap) (j : Nat) : TS := tSeq (tPar 3 4 (tCons (tLst tNil) (tCons (tC (.int 0)) tNil))) (tSeq (tFor (iRng1 (tCons (tVar 1) tNil)) (gName 5) (tSeq (tIfS (tTruV K (tCB (rIsi K) (tCons (tVar 0) (tCons (tC (.ref (He.ga K "Last"))) tNil)))) (tAsg (tOp (rAddX K) (tVar 4) (tCB rInt1 (tCons (tOp (rI0 fun i j => .bl (decide (j < i))) (tVar 5) (tOp (rIx K) (tVar 2) (tVar 4))) tNil))) (gName 4)) (tIfS (tAnd (tTest (tOp (rI0 fun i j => .bl (decide (i < j))) (tOp (rAddX K) (tVar 4) (tC (.int 1))) (tCB (rLenA K) (tCons (tVar 2) tNil)))) (tTest (tOp (rI0 fun i j => .bl (decide (i ≤ j))) (tOp (rIx K) (tVar 2) (tOp (rAddX K) (tVar 4) (tC (.int 1)))) (tVar 5)))) (tAsg (tOp (rAddX K) (tVar 4) (tC (.int 1))) (gName 4)) tNext)) (tDrop (tBM K "list" rAppend (tVar 3) (tCons (tVar 4) tNil))))) (tRet (tVar 3)))
theorem d_speakers {P : Program} {w : World} {K : PySem.W.Frag} {mg : Str → Option Value} {base : Heap} (T : Tx K mg) {j : Nat} {f : Addr} {cdv : Value} {A : Around} {outer : List Env} {s : Shared} {H : Hp} {E : XK} (hr : Room j (A.deeper (envOfC "speakers" (defScope s_speakers) s.heap.objs.size f cdv))) :
    PSs (cxOf C0 P w K mg base ["member", "amount", "kept", "found", "place", "at"] "speakers" (defScope s_speakers) f cdv A outer s H E).nox (defBody s_speakers) (t_speakers P w K mg base j) := by
  exact pss_cons (ps_par (by rfl) sc_speakers.nd rfl rfl (by decide) rfl rfl (pa_cons (pe_lst pa_nil) (pa_cons pe_int pa_nil)) (by rfl)) (pss_cons (ps_for PassesOwn.never rfl (pi_range1 (by rfl) T.free_range (pa_cons (pv 1) pa_nil)) (pg_name (i := 5) sc_speakers.nd rfl (Or.inl rfl)) (pss_cons (ps_if (pt_truth (pe_callB call_isi (by rfl) T.free_isinstance PyProof.Rows.boot_isinstance (pa_cons (pv 0) (pa_cons (C8.pe_gc (by rfl) T.gl_Last) pa_nil))) (by intro _; rfl)) (pss_one (ps_set (i := 4) sc_speakers.nd rfl (Or.inl rfl) (pe_op op_addX (pv 4) (pe_callTy call_int1 (by rfl) T.free_int PyProof.Rows.boot_int (pa_cons (pe_cmpR op_gt (pv 5) (pe_ix ix_seq (pv 2) (pv 4) (fun _ _ => rfl)) (by rfl)) pa_nil))))) (pss_one (ps_if (PW.pt (pw_and (pt_cmpR op_lt (pe_op op_addX (pv 4) pe_int) (pe_callB call_len_seq (by rfl) T.free_len PySem.boot_len (pa_cons (pv 2) pa_nil)) (by rfl)) (pw_and1 (pt_cmpR op_le (pe_ix ix_seq (pv 2) (pe_op op_addX (pv 4) pe_int) (fun _ _ => rfl)) (pv 5) (by rfl))))) (pss_one (ps_set (i := 4) sc_speakers.nd rfl (Or.inl rfl) (pe_op op_addX (pv 4) pe_int))) pss_nil))) (pss_one (ps_expr (pe_bm PySem.F.plainAttrs_list PySem.F.slot_list_append PySem.F.type_list_append mt_append (pv 3) (pa_cons (pv 4) pa_nil)))))) (pss_one (ps_ret (pv 3))))
theorem sc_RowD__initD_ : FnScope ["self", "members", "index", "member"] ["self", "members"] (defScope s_Row_D_initD_) := ⟨rfl, rfl, rfl, by decide +kernel, rfl, by decide +kernel, by decide +kernel⟩
theorem b_RowD__initD_ (kV doc pm : Value) (an : Option Addr) (cdv ct : Value) (us : List Value) (hl : us.length = 2) : bindArgs (PySem.W.fnOf "__init__" "Row.__init__" (defArgs s_Row_D_initD_) (defBody s_Row_D_initD_) (defScope s_Row_D_initD_) .none kV doc pm an cdv ct) ⟨us, []⟩ = pure ((["self", "members"] : List Str).zip us) := match us, hl with | [_, _], _ => rfl
def t_RowD__initD_ (P : Program) (w : World) (K : PySem.W.Frag) (mg : Str → Option Value) (base : Heap) (j : Nat) : TS := tSeq (tIfS (tNot (tTruV K (tCB (rIsiT K) (tCons (tVar 1) (tCons (tTup (tCons (tC (.ty "list")) (tCons (tC (.ty "tuple")) tNil))) tNil))))) tNever tNext) (tSeq (sFld K (tVar 0) (tThen (tVar 1) (kTup K)) "members") (tFor (iEnumX K (tCons (tFld K (tVar 0) "members") tNil)) (gTup K 2 (gCons (gName 2) (gCons (gName 3) gNil))) (tIfS (tNot (tTruV K (tCallX P w K mg base j "is_member" (tCons (tVar 3) tNil)))) tNever tNext)))
theorem d_RowD__initD_ {P : Program} {w : World} {K : PySem.W.Frag} {mg : Str → Option Value} {base : Heap} (T : Tx K mg) {j : Nat} {f : Addr} {cdv : Value} {A : Around} {outer : List Env} {s : Shared} {H : Hp} {E : XK} (hr : Room j (A.deeper (envOfC "Row.__init__" (defScope s_Row_D_initD_) s.heap.objs.size f cdv))) :
    PSs (cxOf C0 P w K mg base ["self", "members", "index", "member"] "Row.__init__" (defScope s_Row_D_initD_) f cdv A outer s H E).nox (defBody s_Row_D_initD_) (t_RowD__initD_ P w K mg base j) := by
  exact pss_cons (ps_if (pt_not (pt_truth (pe_callB call_isiT (by rfl) T.free_isinstance PyProof.Rows.boot_isinstance (pa_cons (pv 1) (pa_cons (pe_tup (pa_cons (pe_bltn (v := .ty "list") (by rfl) T.free_list PyProof.Rows.boot_list rfl) (pa_cons (pe_bltn (v := .ty "tuple") (by rfl) T.free_tuple PyProof.Rows.boot_tuple rfl) pa_nil))) pa_nil))) (by intro _; rfl))) (pss_one ps_never) pss_nil) (pss_cons (ps_fld (pv 0) (pe_tupleOf (by rfl) T.free_tuple (pv 1)) rfl) (pss_one (ps_for PassesOwn.never rfl (pi_enumX (by rfl) T.free_enumerate (pa_cons (pe_fld (pv 0) rfl) pa_nil)) (pg_tup rfl (pgs_cons (pg_name (i := 2) sc_RowD__initD_.nd rfl (Or.inl rfl)) (pgs_cons (pg_name (i := 3) sc_RowD__initD_.nd rfl (Or.inl rfl)) pgs_nil))) (pss_one (ps_if (pt_not (pt_truth (pe_cx hr (by rfl) (pa_cons (pv 3) pa_nil) (hm := T.hm_is_member)) (by intro _; rfl))) (pss_one ps_never) pss_nil)))))
theorem sc_Row.delays : FnScope ["self", "member"] ["self"] (defScope s_Row_delays) := ⟨rfl, rfl, rfl, by decide +kernel, rfl, by decide +kernel, by decide +kernel⟩
theorem b_Row.delays (kV doc pm : Value) (an : Option Addr) (cdv ct : Value) (us : List Value) (hl : us.length = 1) : bindArgs (PySem.W.fnOf "delays" "Row.delays" (defArgs s_Row_delays) (defBody s_Row_delays) (defScope s_Row_delays) .none kV doc pm an cdv ct) ⟨us, []⟩ = pure ((["self"] : List Str).zip us) := match us, hl with | [_], _ => rfl
def t_Row.delays (P : Program) (w : World) (K : PySem.W.Frag) (mg : Str → Option Value) (base : Heap) (j : Nat) : TS := tRet (tCB (rSum K) (tCons (tLc (iSeq K (tFld K (tVar 0) "members")) (gName 1) tYes (tMethX P w K mg base j "waits" (tVar 1) tNil) [1]) tNil))
theorem d_Row.delays {P : Program} {w : World} {K : PySem.W.Frag} {mg : Str → Option Value} {base : Heap} (T : Tx K mg) {j : Nat} {f : Addr} {cdv : Value} {A : Around} {outer : List Env} {s : Shared} {H : Hp} {E : XK} (hr : Room j (A.deeper (envOfC "Row.delays" (defScope s_Row_delays) s.heap.objs.size f cdv))) :
    PSs (cxOf C0 P w K mg base ["self", "member"] "Row.delays" (defScope s_Row_delays) f cdv A outer s H E).nox (defBody s_Row_delays) (t_Row.delays P w K mg base j) := by
  exact pss_one (ps_ret (pe_callB (cr_sum rfl) (by rfl) T.free_sum PyProof.Rows.boot_sum (pa_cons (pe_lc (own := [("member", 1)]) rfl sc_Row.delays.nd (pi_seq (pe_fld (pv 0) rfl)) (blkOk_by (N := ["self", "member"]) (sc := defScope s_Row_delays) (by decide +kernel)) (fun _ _ _ _ _ => pg_name (i := 1) sc_Row.delays.nd rfl (Or.inl rfl)) (fun _ _ _ _ _ => pts_nil) (fun _ _ _ _ _ => pe_mx0 hr (pv 1))) pa_nil)))
theorem sc_kept_numbers : FnScope ["row", "stream", "numbers", "member", "at", "number"] ["row", "stream"] (defScope s_kept_numbers) := ⟨rfl, rfl, rfl, by decide +kernel, rfl, by decide +kernel, by decide +kernel⟩
theorem b_kept_numbers (kV doc pm : Value) (an : Option Addr) (cdv ct : Value) (us : List Value) (hl : us.length = 2) : bindArgs (PySem.W.fnOf "kept_numbers" "kept_numbers" (defArgs s_kept_numbers) (defBody s_kept_numbers) (defScope s_kept_numbers) .none kV doc pm an cdv ct) ⟨us, []⟩ = pure ((["row", "stream"] : List Str).zip us) := match us, hl with | [_, _], _ => rfl
def t_kept_numbers (P : Program) (w : World) (K : PySem.W.Frag) (mg : Str → Option Value) (base : Heap) (j : Nat) : TS := tSeq (tAsg (tLstRg (tRg1 (tCB (rLenA K) (tCons (tVar 1) tNil)))) (gName 2)) (tSeq (tFor (iSeq K (tFld K (tVar 0) "members")) (gName 3) (tAsg (tLc (iSeq K (tMethX P w K mg base j "kept" (tVar 3) (tCons (tLc (iSeq K (tVar 2)) (gName 5) tYes (tOp (rIx K) (tVar 1) (tVar 5)) [5]) tNil))) (gName 4) tYes (tOp (rIx K) (tVar 2) (tVar 4)) [4]) (gName 2))) (tRet (tVar 2)))
theorem d_kept_numbers {P : Program} {w : World} {K : PySem.W.Frag} {mg : Str → Option Value} {base : Heap} (T : Tx K mg) {j : Nat} {f : Addr} {cdv : Value} {A : Around} {outer : List Env} {s : Shared} {H : Hp} {E : XK} (hr : Room j (A.deeper (envOfC "kept_numbers" (defScope s_kept_numbers) s.heap.objs.size f cdv))) :
    PSs (cxOf C0 P w K mg base ["row", "stream", "numbers", "member", "at", "number"] "kept_numbers" (defScope s_kept_numbers) f cdv A outer s H E).nox (defBody s_kept_numbers) (t_kept_numbers P w K mg base j) := by
  exact pss_cons (ps_set (i := 2) sc_kept_numbers.nd rfl (Or.inr rfl) (pe_listRg rfl (by rfl) T.free_list (prg_1 (by rfl) T.free_range (pe_callB call_len_seq (by rfl) T.free_len PySem.boot_len (pa_cons (pv 1) pa_nil))))) (pss_cons (ps_for PassesOwn.never rfl (pi_seq (pe_fld (pv 0) rfl)) (pg_name (i := 3) sc_kept_numbers.nd rfl (Or.inl rfl)) (pss_one (ps_set (i := 2) sc_kept_numbers.nd rfl (Or.inr rfl) (pe_lc (own := [("at", 4)]) rfl sc_kept_numbers.nd (pi_seq (pe_mx hr (pv 3) (pa_cons (pe_lc (own := [("number", 5)]) rfl sc_kept_numbers.nd (pi_seq (pv 2)) (blkOk_by (N := ["row", "stream", "numbers", "member", "at", "number"]) (sc := defScope s_kept_numbers) (by decide +kernel)) (fun _ _ _ _ _ => pg_name (i := 5) sc_kept_numbers.nd rfl (Or.inl rfl)) (fun _ _ _ _ _ => pts_nil) (fun _ _ _ _ _ => pe_ix ix_seq (pv 1) (pv 5) (fun _ _ => rfl))) pa_nil))) (blkOk_by (N := ["row", "stream", "numbers", "member", "at", "number"]) (sc := defScope s_kept_numbers) (by decide +kernel)) (fun _ _ _ _ _ => pg_name (i := 4) sc_kept_numbers.nd rfl (Or.inl rfl)) (fun _ _ _ _ _ => pts_nil) (fun _ _ _ _ _ => pe_ix ix_seq (pv 2) (pv 4) (fun _ _ => rfl)))))) (pss_one (ps_ret (pv 2))))
theorem sc_told_events : FnScope ["row", "stream", "numbers", "voices", "member", "kept", "places", "voice", "at", "heads", "tails", "late", "number"] ["row", "stream"] (defScope s_told_events) := ⟨rfl, rfl, rfl, by decide +kernel, rfl, by decide +kernel, by decide +kernel⟩
theorem b_told_events (kV doc pm : Value) (an : Option Addr) (cdv ct : Value) (us : List Value) (hl : us.length = 2) : bindArgs (PySem.W.fnOf "told_events" "told_events" (defArgs s_told_events) (defBody s_told_events) (defScope s_told_events) .none kV doc pm an cdv ct) ⟨us, []⟩ = pure ((["row", "stream"] : List Str).zip us) := match us, hl with | [_, _], _ => rfl
def t_told_events (P : Program) (w : World) (K : PySem.W.Frag) (mg : Str → Option Value) (base : Heap) (j : Nat) : TS := tSeq (tDrop (tCallX P w K mg base j "check_stream" (tCons (tVar 1) tNil))) (tSeq (tAsg (tTup (tCons (tLstRg (tRg1 (tCB (rLenA K) (tCons (tVar 1) tNil)))) (tCons (tLstRg (tRg1 (tCB (rLenA K) (tCons (tVar 1) tNil)))) tNil))) (gTup K 2 (gCons (gName 2) (gCons (gName 3) gNil)))) (tSeq (tFor (iSeq K (tFld K (tVar 0) "members")) (gName 4) (tSeq (tAsg (tMethX P w K mg base j "kept" (tVar 4) (tCons (tLc (iSeq K (tVar 2)) (gName 12) tYes (tOp (rIx K) (tVar 1) (tVar 12)) [12]) tNil)) (gName 5)) (tSeq (tAsg (tCallX P w K mg base j "speakers" (tCons (tVar 4) (tCons (tCB (rLenA K) (tCons (tVar 2) tNil)) (tCons (tVar 5) tNil)))) (gName 6)) (tSeq (tAsg (tLc (iSeq K (tVar 3)) (gName 7) tYes (tOp (rIx K) (tVar 6) (tVar 7)) [7]) (gName 3)) (tAsg (tLc (iSeq K (tVar 5)) (gName 8) tYes (tOp (rIx K) (tVar 2) (tVar 8)) [8]) (gName 2)))))) (tSeq (tAsg tDNewK (gName 9)) (tSeq (tAsg tDNewK (gName 10)) (tSeq (tFor (iEnumX K (tCons (tVar 3) tNil)) (gTup K 2 (gCons (gName 8) (gCons (gName 7) gNil))) (tSeq (sDPut (tVar 9) (tVar 7) (tDGet2 (tVar 9) (tVar 7) (tVar 8))) (sDPut (tVar 10) (tVar 7) (tVar 8)))) (tSeq (tAsg (tMethX P w K mg base j "delays" (tVar 0) tNil) (gName 11)) (tRet (tLc (iEnumX K (tCons (tVar 2) tNil)) (gTup K 2 (gCons (gName 8) (gCons (gName 12) gNil))) tYes (tMakeX P w K mg base j "Told" (tCons (tVar 12) (tCons (tOp (rAddX K) (tOp (rIx K) (tVar 1) (tVar 12)) (tVar 11)) (tCons (tDGet (tVar 9) (tVar 8)) (tCons (tDGet (tVar 10) (tVar 8)) tNil))))) [8, 12]))))))))
theorem d_told_events {P : Program} {w : World} {K : PySem.W.Frag} {mg : Str → Option Value} {base : Heap} (T : Tx K mg) {j : Nat} {f : Addr} {cdv : Value} {A : Around} {outer : List Env} {s : Shared} {H : Hp} {E : XK} (hr : Room j (A.deeper (envOfC "told_events" (defScope s_told_events) s.heap.objs.size f cdv))) :
    PSs (cxOf C0 P w K mg base ["row", "stream", "numbers", "voices", "member", "kept", "places", "voice", "at", "heads", "tails", "late", "number"] "told_events" (defScope s_told_events) f cdv A outer s H E).nox (defBody s_told_events) (t_told_events P w K mg base j) := by
  have hu := hu_of hr
  exact pss_cons (ps_expr (pe_cx hr (by rfl) (pa_cons (pv 1) pa_nil) (hm := T.hm_check_stream))) (pss_cons (ps_asg (pe_tup (pa_cons (pe_listRg rfl (by rfl) T.free_list (prg_1 (by rfl) T.free_range (pe_callB call_len_seq (by rfl) T.free_len PySem.boot_len (pa_cons (pv 1) pa_nil)))) (pa_cons (pe_listRg rfl (by rfl) T.free_list (prg_1 (by rfl) T.free_range (pe_callB call_len_seq (by rfl) T.free_len PySem.boot_len (pa_cons (pv 1) pa_nil)))) pa_nil))) (pg_tup rfl (pgs_cons (pg_name (i := 2) sc_told_events.nd rfl (Or.inr rfl)) (pgs_cons (pg_name (i := 3) sc_told_events.nd rfl (Or.inl rfl)) pgs_nil)))) (pss_cons (ps_for PassesOwn.never rfl (pi_seq (pe_fld (pv 0) rfl)) (pg_name (i := 4) sc_told_events.nd rfl (Or.inl rfl)) (pss_cons (ps_set (i := 5) sc_told_events.nd rfl (Or.inl rfl) (pe_mx hr (pv 4) (pa_cons (pe_lc (own := [("number", 12)]) rfl sc_told_events.nd (pi_seq (pv 2)) (blkOk_by (N := ["row", "stream", "numbers", "voices", "member", "kept", "places", "voice", "at", "heads", "tails", "late", "number"]) (sc := defScope s_told_events) (by decide +kernel)) (fun _ _ _ _ _ => pg_name (i := 12) sc_told_events.nd rfl (Or.inl rfl)) (fun _ _ _ _ _ => pts_nil) (fun _ _ _ _ _ => pe_ix ix_seq (pv 1) (pv 12) (fun _ _ => rfl))) pa_nil))) (pss_cons (ps_set (i := 6) sc_told_events.nd rfl (Or.inr rfl) (pe_cx hr (by rfl) (pa_cons (pv 4) (pa_cons (pe_callB call_len_seq (by rfl) T.free_len PySem.boot_len (pa_cons (pv 2) pa_nil)) (pa_cons (pv 5) pa_nil))) (hm := T.hm_speakers))) (pss_cons (ps_setLc (i := 3) (own := [("voice", 7)]) rfl sc_told_events.nd rfl rfl (sw_true rfl rfl rfl (by decide +kernel)) (pi_seq (pv 3)) (blkOk_by (N := ["row", "stream", "numbers", "voices", "member", "kept", "places", "voice", "at", "heads", "tails", "late", "number"]) (sc := defScope s_told_events) (by decide +kernel)) (fun _ _ _ _ _ => pg_name (i := 7) sc_told_events.nd rfl (Or.inl rfl)) (fun _ _ _ _ _ => pts_nil) (fun _ _ _ _ _ => pe_ix ix_seq (pv 6) (pv 7) (fun _ _ => rfl))) (pss_one (ps_set (i := 2) sc_told_events.nd rfl (Or.inr rfl) (pe_lc (own := [("at", 8)]) rfl sc_told_events.nd (pi_seq (pv 5)) (blkOk_by (N := ["row", "stream", "numbers", "voices", "member", "kept", "places", "voice", "at", "heads", "tails", "late", "number"]) (sc := defScope s_told_events) (by decide +kernel)) (fun _ _ _ _ _ => pg_name (i := 8) sc_told_events.nd rfl (Or.inl rfl)) (fun _ _ _ _ _ => pts_nil) (fun _ _ _ _ _ => pe_ix ix_seq (pv 2) (pv 8) (fun _ _ => rfl))))))))) (pss_cons (ps_set (i := 9) sc_told_events.nd rfl (Or.inr rfl) pe_dnewK) (pss_cons (ps_set (i := 10) sc_told_events.nd rfl (Or.inr rfl) pe_dnewK) (pss_cons (ps_for PassesOwn.never rfl (pi_enumX (by rfl) T.free_enumerate (pa_cons (pv 3) pa_nil)) (pg_tup rfl (pgs_cons (pg_name (i := 8) sc_told_events.nd rfl (Or.inl rfl)) (pgs_cons (pg_name (i := 7) sc_told_events.nd rfl (Or.inl rfl)) pgs_nil))) (pss_cons (ps_dput hu (pv 9) (pv 7) (pe_dget2 hu (pv 9) (pv 7) (pv 8) ⟨rfl, rfl, rfl, rfl⟩) rfl) (pss_one (ps_dput hu (pv 10) (pv 7) (pv 8) rfl)))) (pss_cons (ps_set (i := 11) sc_told_events.nd rfl (Or.inr rfl) (pe_mx0 hr (pv 0))) (pss_one (ps_ret (pe_lc (own := [("at", 8), ("number", 12)]) rfl sc_told_events.nd (pi_enumX (by rfl) T.free_enumerate (pa_cons (pv 2) pa_nil)) (blkOk_by (N := ["row", "stream", "numbers", "voices", "member", "kept", "places", "voice", "at", "heads", "tails", "late", "number"]) (sc := defScope s_told_events) (by decide +kernel)) (fun _ _ _ _ _ => pg_tup rfl (pgs_cons (pg_name (i := 8) sc_told_events.nd rfl (Or.inl rfl)) (pgs_cons (pg_name (i := 12) sc_told_events.nd rfl (Or.inl rfl)) pgs_nil))) (fun _ _ _ _ _ => pts_nil) (fun _ _ _ _ _ => pe_kx hr (by rfl) (pa_cons (pv 12) (pa_cons (pe_op op_addX (pe_ix ix_seq (pv 1) (pv 12) (fun _ _ => rfl)) (pv 11)) (pa_cons (pe_dget hu (pv 9) (pv 8) (fun _ _ => rfl)) (pa_cons (pe_dget hu (pv 10) (pv 8) (fun _ _ => rfl)) pa_nil)))) (hm := T.hm_Told)))))))))))
end Qr

/-! #### Qdb -/
set_option maxHeartbeats 4000000
/-! Derivations. Printed by gen2.py. -/
namespace Qr
open PySem PySem.Spec PyProof.Rows L2

theorem sc_TrainD__initD_ : FnScope ["self", "first", "head", "block", "rounds", "end"] ["self", "first", "head", "block", "rounds", "end"] (defScope s_Train_D_initD_) := ⟨rfl, rfl, rfl, by decide +kernel, rfl, by decide +kernel, by decide +kernel⟩
theorem b_TrainD__initD_ (kV doc pm : Value) (an : Option Addr) (cdv ct : Value) (us : List Value) (hl : us.length = 6) : bindArgs (PySem.W.fnOf "__init__" "Train.__init__" (defArgs s_Train_D_initD_) (defBody s_Train_D_initD_) (defScope s_Train_D_initD_) .none kV doc pm an cdv ct) ⟨us, []⟩ = pure ((["self", "first", "head", "block", "rounds", "end"] : List Str).zip us) := match us, hl with | [_, _, _, _, _, _], _ => rfl
def t_TrainD__initD_ (P : Program) (w : World) (K : PySem.W.Frag) (mg : Str → Option Value) (base : Heap) (j : Nat) : TS := tSeq (tIfS (tNot (tTruV K (tCallX P w K mg base j "is_number" (tCons (tVar 1) tNil)))) tNever tNext) (tSeq (tIfS (tNot (tTruV K (tCallX P w K mg base j "are_gaps" (tCons (tVar 2) tNil)))) tNever tNext) (tSeq (tIfS (tNot (tTruV K (tCallX P w K mg base j "are_gaps" (tCons (tVar 3) tNil)))) tNever tNext) (tSeq (tIfS (tOr (tNot (tTruV K (tCallX P w K mg base j "is_number" (tCons (tVar 4) tNil)))) (tTest (tOp (rI0 fun i j => .bl (decide (i < j))) (tVar 4) (tC (.int 0))))) tNever tNext) (tSeq (tIfS (tNot (tTruV K (tCallX P w K mg base j "are_gaps" (tCons (tVar 5) tNil)))) tNever tNext) (tSeq (sFld K (tVar 0) (tVar 1) "first") (tSeq (sFld K (tVar 0) (tThen (tVar 2) (kTup K)) "head") (tSeq (sFld K (tVar 0) (tThen (tVar 3) (kTup K)) "block") (tSeq (sFld K (tVar 0) (tVar 4) "rounds") (sFld K (tVar 0) (tThen (tVar 5) (kTup K)) "end")))))))))
theorem d_TrainD__initD_ {P : Program} {w : World} {K : PySem.W.Frag} {mg : Str → Option Value} {base : Heap} (T : Tx K mg) {j : Nat} {f : Addr} {cdv : Value} {A : Around} {outer : List Env} {s : Shared} {H : Hp} {E : XK} (hr : Room j (A.deeper (envOfC "Train.__init__" (defScope s_Train_D_initD_) s.heap.objs.size f cdv))) :
    PSs (cxOf C0 P w K mg base ["self", "first", "head", "block", "rounds", "end"] "Train.__init__" (defScope s_Train_D_initD_) f cdv A outer s H E).nox (defBody s_Train_D_initD_) (t_TrainD__initD_ P w K mg base j) := by
  exact pss_cons (ps_if (pt_not (pt_truth (pe_cx hr (by rfl) (pa_cons (pv 1) pa_nil) (hm := T.hm_is_number)) (by intro _; rfl))) (pss_one ps_never) pss_nil) (pss_cons (ps_if (pt_not (pt_truth (pe_cx hr (by rfl) (pa_cons (pv 2) pa_nil) (hm := T.hm_are_gaps)) (by intro _; rfl))) (pss_one ps_never) pss_nil) (pss_cons (ps_if (pt_not (pt_truth (pe_cx hr (by rfl) (pa_cons (pv 3) pa_nil) (hm := T.hm_are_gaps)) (by intro _; rfl))) (pss_one ps_never) pss_nil) (pss_cons (ps_if (PW.pt (pw_or (pt_not (pt_truth (pe_cx hr (by rfl) (pa_cons (pv 4) pa_nil) (hm := T.hm_is_number)) (by intro _; rfl))) (pw_or1 (pt_cmpR op_lt (pv 4) pe_int (by rfl))))) (pss_one ps_never) pss_nil) (pss_cons (ps_if (pt_not (pt_truth (pe_cx hr (by rfl) (pa_cons (pv 5) pa_nil) (hm := T.hm_are_gaps)) (by intro _; rfl))) (pss_one ps_never) pss_nil) (pss_cons (ps_fld (pv 0) (pv 1) rfl) (pss_cons (ps_fld (pv 0) (pe_tupleOf (by rfl) T.free_tuple (pv 2)) rfl) (pss_cons (ps_fld (pv 0) (pe_tupleOf (by rfl) T.free_tuple (pv 3)) rfl) (pss_cons (ps_fld (pv 0) (pv 4) rfl) (pss_one (ps_fld (pv 0) (pe_tupleOf (by rfl) T.free_tuple (pv 5)) rfl))))))))))
theorem sc_are_gaps : FnScope ["thing", "gap"] ["thing"] (defScope s_are_gaps) := ⟨rfl, rfl, rfl, by decide +kernel, rfl, by decide +kernel, by decide +kernel⟩
theorem b_are_gaps (kV doc pm : Value) (an : Option Addr) (cdv ct : Value) (us : List Value) (hl : us.length = 1) : bindArgs (PySem.W.fnOf "are_gaps" "are_gaps" (defArgs s_are_gaps) (defBody s_are_gaps) (defScope s_are_gaps) .none kV doc pm an cdv ct) ⟨us, []⟩ = pure ((["thing"] : List Str).zip us) := match us, hl with | [_], _ => rfl
def t_are_gaps (P : Program) (w : World) (K : PySem.W.Frag) (mg : Str → Option Value) (base : Heap) (j : Nat) : TS := tSeq (tIfS (tNot (tTruV K (tCB (rIsiT K) (tCons (tVar 0) (tCons (tTup (tCons (tC (.ty "list")) (tCons (tC (.ty "tuple")) tNil))) tNil))))) (tRet (tC (.bl false))) tNext) (tRet (tCB (rAll K) (tCons (tLc (iSeq K (tVar 0)) (gName 1) tYes (tAndV (tCallX P w K mg base j "is_number" (tCons (tVar 1) tNil)) (tOp (rI0 fun i j => .bl (decide (j ≤ i))) (tVar 1) (tC (.int 1)))) [1]) tNil)))
theorem d_are_gaps {P : Program} {w : World} {K : PySem.W.Frag} {mg : Str → Option Value} {base : Heap} (T : Tx K mg) {j : Nat} {f : Addr} {cdv : Value} {A : Around} {outer : List Env} {s : Shared} {H : Hp} {E : XK} (hr : Room j (A.deeper (envOfC "are_gaps" (defScope s_are_gaps) s.heap.objs.size f cdv))) :
    PSs (cxOf C0 P w K mg base ["thing", "gap"] "are_gaps" (defScope s_are_gaps) f cdv A outer s H E).nox (defBody s_are_gaps) (t_are_gaps P w K mg base j) := by
  exact pss_cons (ps_if (pt_not (pt_truth (pe_callB call_isiT (by rfl) T.free_isinstance PyProof.Rows.boot_isinstance (pa_cons (pv 0) (pa_cons (pe_tup (pa_cons (pe_bltn (v := .ty "list") (by rfl) T.free_list PyProof.Rows.boot_list rfl) (pa_cons (pe_bltn (v := .ty "tuple") (by rfl) T.free_tuple PyProof.Rows.boot_tuple rfl) pa_nil))) pa_nil))) (by intro _; rfl))) (pss_one (ps_ret pe_bl)) pss_nil) (pss_one (ps_ret (pe_callB (cr_all rfl) (by rfl) T.free_all PyProof.Rows.boot_all (pa_cons (pe_lc (own := [("gap", 1)]) rfl sc_are_gaps.nd (pi_seq (pv 0)) (blkOk_by (N := ["thing", "gap"]) (sc := defScope s_are_gaps) (by decide +kernel)) (fun _ _ _ _ _ => pg_name (i := 1) sc_are_gaps.nd rfl (Or.inl rfl)) (fun _ _ _ _ _ => pts_nil) (fun _ _ _ _ _ => pe_and (pe_cx hr (by rfl) (pa_cons (pv 1) pa_nil) (hm := T.hm_is_number)) (pe_one (pe_cmpR op_ge (pv 1) pe_int (by rfl))))) pa_nil))))
theorem sc_sums_of : FnScope ["gaps", "found", "gap"] ["gaps"] (defScope s_sums_of) := ⟨rfl, rfl, rfl, by decide +kernel, rfl, by decide +kernel, by decide +kernel⟩
theorem b_sums_of (kV doc pm : Value) (an : Option Addr) (cdv ct : Value) (us : List Value) (hl : us.length = 1) : bindArgs (PySem.W.fnOf "sums_of" "sums_of" (defArgs s_sums_of) (defBody s_sums_of) (defScope s_sums_of) .none kV doc pm an cdv ct) ⟨us, []⟩ = pure ((["gaps"] : List Str).zip us) := match us, hl with | [_], _ => rfl
def t_sums_of (P : Program) (w : World) (K : PySem.W.Frag) (mg : Str → Option Value) (base : Heap) (j : Nat) : TS := tSeq (tAsg (tLst (tCons (tC (.int 0)) tNil)) (gName 1)) (tSeq (tFor (iSeq K (tVar 0)) (gName 2) (tDrop (tBM K "list" rAppend (tVar 1) (tCons (tOp (rAddX K) (tOp (rIx K) (tVar 1) (tUn (rU fun i => .int (-i)) (tC (.int 1)))) (tVar 2)) tNil)))) (tRet (tVar 1)))
theorem d_sums_of {P : Program} {w : World} {K : PySem.W.Frag} {mg : Str → Option Value} {base : Heap} (T : Tx K mg) {j : Nat} {f : Addr} {cdv : Value} {A : Around} {outer : List Env} {s : Shared} {H : Hp} {E : XK} (hr : Room j (A.deeper (envOfC "sums_of" (defScope s_sums_of) s.heap.objs.size f cdv))) :
    PSs (cxOf C0 P w K mg base ["gaps", "found", "gap"] "sums_of" (defScope s_sums_of) f cdv A outer s H E).nox (defBody s_sums_of) (t_sums_of P w K mg base j) := by
  exact pss_cons (ps_set (i := 1) sc_sums_of.nd rfl (Or.inl rfl) (pe_lst (pa_cons pe_int pa_nil))) (pss_cons (ps_for PassesOwn.never rfl (pi_seq (pv 0)) (pg_name (i := 2) sc_sums_of.nd rfl (Or.inl rfl)) (pss_one (ps_expr (pe_bm PySem.F.plainAttrs_list PySem.F.slot_list_append PySem.F.type_list_append mt_append (pv 1) (pa_cons (pe_op op_addX (pe_ix ix_seq (pv 1) (pe_un un_neg pe_int) (fun _ _ => rfl)) (pv 2)) pa_nil))))) (pss_one (ps_ret (pv 1))))
theorem sc_RulerD__initD_ : FnScope ["self", "train"] ["self", "train"] (defScope s_Ruler_D_initD_) := ⟨rfl, rfl, rfl, by decide +kernel, rfl, by decide +kernel, by decide +kernel⟩
theorem b_RulerD__initD_ (kV doc pm : Value) (an : Option Addr) (cdv ct : Value) (us : List Value) (hl : us.length = 2) : bindArgs (PySem.W.fnOf "__init__" "Ruler.__init__" (defArgs s_Ruler_D_initD_) (defBody s_Ruler_D_initD_) (defScope s_Ruler_D_initD_) .none kV doc pm an cdv ct) ⟨us, []⟩ = pure ((["self", "train"] : List Str).zip us) := match us, hl with | [_, _], _ => rfl
def t_RulerD__initD_ (P : Program) (w : World) (K : PySem.W.Frag) (mg : Str → Option Value) (base : Heap) (j : Nat) : TS := tSeq (sFld K (tVar 0) (tFld K (tVar 1) "first") "first") (tSeq (sFld K (tVar 0) (tCallX P w K mg base j "sums_of" (tCons (tFld K (tVar 1) "head") tNil)) "head") (tSeq (sFld K (tVar 0) (tCallX P w K mg base j "sums_of" (tCons (tFld K (tVar 1) "block") tNil)) "block") (tSeq (sFld K (tVar 0) (tCallX P w K mg base j "sums_of" (tCons (tFld K (tVar 1) "end") tNil)) "end") (tSeq (sFld K (tVar 0) (tCB (rLenA K) (tCons (tFld K (tVar 1) "block") tNil)) "size") (tSeq (sFld K (tVar 0) (tCB (rLenA K) (tCons (tFld K (tVar 1) "head") tNil)) "before") (tSeq (sFld K (tVar 0) (tOp (rAddX K) (tFld K (tVar 0) "before") (tOp rMulX (tFld K (tVar 0) "size") (tFld K (tVar 1) "rounds"))) "behind") (sFld K (tVar 0) (tOp rMulX (tOp (rIx K) (tFld K (tVar 0) "block") (tUn (rU fun i => .int (-i)) (tC (.int 1)))) (tFld K (tVar 1) "rounds")) "long")))))))
theorem d_RulerD__initD_ {P : Program} {w : World} {K : PySem.W.Frag} {mg : Str → Option Value} {base : Heap} (T : Tx K mg) {j : Nat} {f : Addr} {cdv : Value} {A : Around} {outer : List Env} {s : Shared} {H : Hp} {E : XK} (hr : Room j (A.deeper (envOfC "Ruler.__init__" (defScope s_Ruler_D_initD_) s.heap.objs.size f cdv))) :
    PSs (cxOf C0 P w K mg base ["self", "train"] "Ruler.__init__" (defScope s_Ruler_D_initD_) f cdv A outer s H E).nox (defBody s_Ruler_D_initD_) (t_RulerD__initD_ P w K mg base j) := by
  exact pss_cons (ps_fld (pv 0) (pe_fld (pv 1) rfl) rfl) (pss_cons (ps_fld (pv 0) (pe_cx hr (by rfl) (pa_cons (pe_fld (pv 1) rfl) pa_nil) (hm := T.hm_sums_of)) rfl) (pss_cons (ps_fld (pv 0) (pe_cx hr (by rfl) (pa_cons (pe_fld (pv 1) rfl) pa_nil) (hm := T.hm_sums_of)) rfl) (pss_cons (ps_fld (pv 0) (pe_cx hr (by rfl) (pa_cons (pe_fld (pv 1) rfl) pa_nil) (hm := T.hm_sums_of)) rfl) (pss_cons (ps_fld (pv 0) (pe_callB call_len_seq (by rfl) T.free_len PySem.boot_len (pa_cons (pe_fld (pv 1) rfl) pa_nil)) rfl) (pss_cons (ps_fld (pv 0) (pe_callB call_len_seq (by rfl) T.free_len PySem.boot_len (pa_cons (pe_fld (pv 1) rfl) pa_nil)) rfl) (pss_cons (ps_fld (pv 0) (pe_op op_addX (pe_fld (pv 0) rfl) (pe_op op_mulX (pe_fld (pv 0) rfl) (pe_fld (pv 1) rfl))) rfl) (pss_one (ps_fld (pv 0) (pe_op op_mulX (pe_ix ix_seq (pe_fld (pv 0) rfl) (pe_un un_neg pe_int) (fun _ _ => rfl)) (pe_fld (pv 1) rfl)) rfl))))))))
theorem sc_Ruler.event_count : FnScope ["self"] ["self"] (defScope s_Ruler_event_count) := ⟨rfl, rfl, rfl, by decide +kernel, rfl, by decide +kernel, by decide +kernel⟩
theorem b_Ruler.event_count (kV doc pm : Value) (an : Option Addr) (cdv ct : Value) (us : List Value) (hl : us.length = 1) : bindArgs (PySem.W.fnOf "event_count" "Ruler.event_count" (defArgs s_Ruler_event_count) (defBody s_Ruler_event_count) (defScope s_Ruler_event_count) .none kV doc pm an cdv ct) ⟨us, []⟩ = pure ((["self"] : List Str).zip us) := match us, hl with | [_], _ => rfl
def t_Ruler.event_count (P : Program) (w : World) (K : PySem.W.Frag) (mg : Str → Option Value) (base : Heap) (j : Nat) : TS := tRet (tOp (rAddX K) (tFld K (tVar 0) "behind") (tCB (rLenA K) (tCons (tFld K (tVar 0) "end") tNil)))
theorem d_Ruler.event_count {P : Program} {w : World} {K : PySem.W.Frag} {mg : Str → Option Value} {base : Heap} (T : Tx K mg) {j : Nat} {f : Addr} {cdv : Value} {A : Around} {outer : List Env} {s : Shared} {H : Hp} {E : XK} (hr : Room j (A.deeper (envOfC "Ruler.event_count" (defScope s_Ruler_event_count) s.heap.objs.size f cdv))) :
    PSs (cxOf C0 P w K mg base ["self"] "Ruler.event_count" (defScope s_Ruler_event_count) f cdv A outer s H E).nox (defBody s_Ruler_event_count) (t_Ruler.event_count P w K mg base j) := by
  exact pss_one (ps_ret (pe_op op_addX (pe_fld (pv 0) rfl) (pe_callB call_len_seq (by rfl) T.free_len PySem.boot_len (pa_cons (pe_fld (pv 0) rfl) pa_nil))))
theorem sc_Ruler.time_of : FnScope ["self", "number", "start", "turns", "place"] ["self", "number"] (defScope s_Ruler_time_of) := ⟨rfl, rfl, rfl, by decide +kernel, rfl, by decide +kernel, by decide +kernel⟩
theorem b_Ruler.time_of (kV doc pm : Value) (an : Option Addr) (cdv ct : Value) (us : List Value) (hl : us.length = 2) : bindArgs (PySem.W.fnOf "time_of" "Ruler.time_of" (defArgs s_Ruler_time_of) (defBody s_Ruler_time_of) (defScope s_Ruler_time_of) .none kV doc pm an cdv ct) ⟨us, []⟩ = pure ((["self", "number"] : List Str).zip us) := match us, hl with | [_, _], _ => rfl
def t_Ruler.time_of (P : Program) (w : World) (K : PySem.W.Frag) (mg : Str → Option Value) (base : Heap) (j : Nat) : TS := tSeq (tIfS (tTest (tOp (rI0 fun i j => .bl (decide (i ≤ j))) (tVar 1) (tFld K (tVar 0) "before"))) (tRet (tOp (rAddX K) (tFld K (tVar 0) "first") (tOp (rIx K) (tFld K (tVar 0) "head") (tVar 1)))) tNext) (tSeq (tAsg (tOp (rAddX K) (tFld K (tVar 0) "first") (tOp (rIx K) (tFld K (tVar 0) "head") (tUn (rU fun i => .int (-i)) (tC (.int 1))))) (gName 2)) (tSeq (tIfS (tTest (tOp (rI0 fun i j => .bl (decide (j ≤ i))) (tVar 1) (tFld K (tVar 0) "behind"))) (tRet (tOp (rAddX K) (tOp (rAddX K) (tVar 2) (tFld K (tVar 0) "long")) (tOp (rIx K) (tFld K (tVar 0) "end") (tOp (rI0 fun i j => .int (i - j)) (tVar 1) (tFld K (tVar 0) "behind"))))) tNext) (tSeq (tAsg (tCB rDivmod (tCons (tOp (rI0 fun i j => .int (i - j)) (tVar 1) (tFld K (tVar 0) "before")) (tCons (tFld K (tVar 0) "size") tNil))) (gTup K 2 (gCons (gName 3) (gCons (gName 4) gNil)))) (tRet (tOp (rAddX K) (tOp (rAddX K) (tVar 2) (tOp rMulX (tVar 3) (tOp (rIx K) (tFld K (tVar 0) "block") (tUn (rU fun i => .int (-i)) (tC (.int 1)))))) (tOp (rIx K) (tFld K (tVar 0) "block") (tVar 4)))))))
theorem d_Ruler.time_of {P : Program} {w : World} {K : PySem.W.Frag} {mg : Str → Option Value} {base : Heap} (T : Tx K mg) {j : Nat} {f : Addr} {cdv : Value} {A : Around} {outer : List Env} {s : Shared} {H : Hp} {E : XK} (hr : Room j (A.deeper (envOfC "Ruler.time_of" (defScope s_Ruler_time_of) s.heap.objs.size f cdv))) :
    PSs (cxOf C0 P w K mg base ["self", "number", "start", "turns", "place"] "Ruler.time_of" (defScope s_Ruler_time_of) f cdv A outer s H E).nox (defBody s_Ruler_time_of) (t_Ruler.time_of P w K mg base j) := by
  exact pss_cons (ps_if (pt_cmpR op_le (pv 1) (pe_fld (pv 0) rfl) (by rfl)) (pss_one (ps_ret (pe_op op_addX (pe_fld (pv 0) rfl) (pe_ix ix_seq (pe_fld (pv 0) rfl) (pv 1) (fun _ _ => rfl))))) pss_nil) (pss_cons (ps_set (i := 2) sc_Ruler.time_of.nd rfl (Or.inl rfl) (pe_op op_addX (pe_fld (pv 0) rfl) (pe_ix ix_seq (pe_fld (pv 0) rfl) (pe_un un_neg pe_int) (fun _ _ => rfl)))) (pss_cons (ps_if (pt_cmpR op_ge (pv 1) (pe_fld (pv 0) rfl) (by rfl)) (pss_one (ps_ret (pe_op op_addX (pe_op op_addX (pv 2) (pe_fld (pv 0) rfl)) (pe_ix ix_seq (pe_fld (pv 0) rfl) (pe_op op_sub (pv 1) (pe_fld (pv 0) rfl)) (fun _ _ => rfl))))) pss_nil) (pss_cons (ps_asg (pe_callB call_divmod (by rfl) T.free_divmod PyProof.Rows.boot_divmod (pa_cons (pe_op op_sub (pv 1) (pe_fld (pv 0) rfl)) (pa_cons (pe_fld (pv 0) rfl) pa_nil))) (pg_tup rfl (pgs_cons (pg_name (i := 3) sc_Ruler.time_of.nd rfl (Or.inl rfl)) (pgs_cons (pg_name (i := 4) sc_Ruler.time_of.nd rfl (Or.inl rfl)) pgs_nil)))) (pss_one (ps_ret (pe_op op_addX (pe_op op_addX (pv 2) (pe_op op_mulX (pv 3) (pe_ix ix_seq (pe_fld (pv 0) rfl) (pe_un un_neg pe_int) (fun _ _ => rfl)))) (pe_ix ix_seq (pe_fld (pv 0) rfl) (pv 4) (fun _ _ => rfl))))))))
theorem sc_check_number : FnScope ["train", "number"] ["train", "number"] (defScope s_check_number) := ⟨rfl, rfl, rfl, by decide +kernel, rfl, by decide +kernel, by decide +kernel⟩
theorem b_check_number (kV doc pm : Value) (an : Option Addr) (cdv ct : Value) (us : List Value) (hl : us.length = 2) : bindArgs (PySem.W.fnOf "check_number" "check_number" (defArgs s_check_number) (defBody s_check_number) (defScope s_check_number) .none kV doc pm an cdv ct) ⟨us, []⟩ = pure ((["train", "number"] : List Str).zip us) := match us, hl with | [_, _], _ => rfl
def t_check_number (P : Program) (w : World) (K : PySem.W.Frag) (mg : Str → Option Value) (base : Heap) (j : Nat) : TS := tIfS (tOr (tNot (tTruV K (tCallX P w K mg base j "is_number" (tCons (tVar 1) tNil)))) (tNot (tTest (tChain (rI0 fun i j => .bl (decide (i ≤ j))) (rI0 fun i j => .bl (decide (i < j))) (tC (.int 0)) (tVar 1) (tCallX P w K mg base j "amount_of" (tCons (tVar 0) tNil)))))) tNever tNext
theorem d_check_number {P : Program} {w : World} {K : PySem.W.Frag} {mg : Str → Option Value} {base : Heap} (T : Tx K mg) {j : Nat} {f : Addr} {cdv : Value} {A : Around} {outer : List Env} {s : Shared} {H : Hp} {E : XK} (hr : Room j (A.deeper (envOfC "check_number" (defScope s_check_number) s.heap.objs.size f cdv))) :
    PSs (cxOf C0 P w K mg base ["train", "number"] "check_number" (defScope s_check_number) f cdv A outer s H E).nox (defBody s_check_number) (t_check_number P w K mg base j) := by
  exact pss_one (ps_if (PW.pt (pw_or (pt_not (pt_truth (pe_cx hr (by rfl) (pa_cons (pv 1) pa_nil) (hm := T.hm_is_number)) (by intro _; rfl))) (pw_or1 (pt_not (pt_chain op_le op_lt pe_int (pv 1) (pe_cx hr (by rfl) (pa_cons (pv 0) pa_nil) (hm := T.hm_amount_of))))))) (pss_one ps_never) pss_nil)
theorem sc_amount_of : FnScope ["train"] ["train"] (defScope s_amount_of) := ⟨rfl, rfl, rfl, by decide +kernel, rfl, by decide +kernel, by decide +kernel⟩
theorem b_amount_of (kV doc pm : Value) (an : Option Addr) (cdv ct : Value) (us : List Value) (hl : us.length = 1) : bindArgs (PySem.W.fnOf "amount_of" "amount_of" (defArgs s_amount_of) (defBody s_amount_of) (defScope s_amount_of) .none kV doc pm an cdv ct) ⟨us, []⟩ = pure ((["train"] : List Str).zip us) := match us, hl with | [_], _ => rfl
def t_amount_of (P : Program) (w : World) (K : PySem.W.Frag) (mg : Str → Option Value) (base : Heap) (j : Nat) : TS := tRet (tMethX P w K mg base j "event_count" (tMakeX P w K mg base j "Ruler" (tCons (tVar 0) tNil)) tNil)
theorem d_amount_of {P : Program} {w : World} {K : PySem.W.Frag} {mg : Str → Option Value} {base : Heap} (T : Tx K mg) {j : Nat} {f : Addr} {cdv : Value} {A : Around} {outer : List Env} {s : Shared} {H : Hp} {E : XK} (hr : Room j (A.deeper (envOfC "amount_of" (defScope s_amount_of) s.heap.objs.size f cdv))) :
    PSs (cxOf C0 P w K mg base ["train"] "amount_of" (defScope s_amount_of) f cdv A outer s H E).nox (defBody s_amount_of) (t_amount_of P w K mg base j) := by
  exact pss_one (ps_ret (pe_mx0 hr (pe_kx hr (by rfl) (pa_cons (pv 0) pa_nil) (hm := T.hm_Ruler))))
theorem sc_event_at : FnScope ["train", "number"] ["train", "number"] (defScope s_event_at) := ⟨rfl, rfl, rfl, by decide +kernel, rfl, by decide +kernel, by decide +kernel⟩
theorem b_event_at (kV doc pm : Value) (an : Option Addr) (cdv ct : Value) (us : List Value) (hl : us.length = 2) : bindArgs (PySem.W.fnOf "event_at" "event_at" (defArgs s_event_at) (defBody s_event_at) (defScope s_event_at) .none kV doc pm an cdv ct) ⟨us, []⟩ = pure ((["train", "number"] : List Str).zip us) := match us, hl with | [_, _], _ => rfl
def t_event_at (P : Program) (w : World) (K : PySem.W.Frag) (mg : Str → Option Value) (base : Heap) (j : Nat) : TS := tSeq (tDrop (tCallX P w K mg base j "check_number" (tCons (tVar 0) (tCons (tVar 1) tNil)))) (tRet (tMethX P w K mg base j "time_of" (tMakeX P w K mg base j "Ruler" (tCons (tVar 0) tNil)) (tCons (tVar 1) tNil)))
theorem d_event_at {P : Program} {w : World} {K : PySem.W.Frag} {mg : Str → Option Value} {base : Heap} (T : Tx K mg) {j : Nat} {f : Addr} {cdv : Value} {A : Around} {outer : List Env} {s : Shared} {H : Hp} {E : XK} (hr : Room j (A.deeper (envOfC "event_at" (defScope s_event_at) s.heap.objs.size f cdv))) :
    PSs (cxOf C0 P w K mg base ["train", "number"] "event_at" (defScope s_event_at) f cdv A outer s H E).nox (defBody s_event_at) (t_event_at P w K mg base j) := by
  exact pss_cons (ps_expr (pe_cx hr (by rfl) (pa_cons (pv 0) (pa_cons (pv 1) pa_nil)) (hm := T.hm_check_number))) (pss_one (ps_ret (pe_mx hr (pe_kx hr (by rfl) (pa_cons (pv 0) pa_nil) (hm := T.hm_Ruler)) (pa_cons (pv 1) pa_nil))))
theorem sc_marked : FnScope ["gaps", "q", "gap"] ["gaps", "q"] (defScope s_marked) := ⟨rfl, rfl, rfl, by decide +kernel, rfl, by decide +kernel, by decide +kernel⟩
theorem b_marked (kV doc pm : Value) (an : Option Addr) (cdv ct : Value) (us : List Value) (hl : us.length = 2) : bindArgs (PySem.W.fnOf "marked" "marked" (defArgs s_marked) (defBody s_marked) (defScope s_marked) .none kV doc pm an cdv ct) ⟨us, []⟩ = pure ((["gaps", "q"] : List Str).zip us) := match us, hl with | [_, _], _ => rfl
def t_marked (P : Program) (w : World) (K : PySem.W.Frag) (mg : Str → Option Value) (base : Heap) (j : Nat) : TS := tRet (tLc (iSeq K (tVar 0)) (gName 2) tYes (tTup (tCons (tVar 2) (tCons (tC (.int 1)) (tCons (tOp (rI0 fun i j => .bl (decide (j ≤ i))) (tVar 2) (tVar 1)) tNil)))) [2])
theorem d_marked {P : Program} {w : World} {K : PySem.W.Frag} {mg : Str → Option Value} {base : Heap} (T : Tx K mg) {j : Nat} {f : Addr} {cdv : Value} {A : Around} {outer : List Env} {s : Shared} {H : Hp} {E : XK} (hr : Room j (A.deeper (envOfC "marked" (defScope s_marked) s.heap.objs.size f cdv))) :
    PSs (cxOf C0 P w K mg base ["gaps", "q", "gap"] "marked" (defScope s_marked) f cdv A outer s H E).nox (defBody s_marked) (t_marked P w K mg base j) := by
  exact pss_one (ps_ret (pe_lc (own := [("gap", 2)]) rfl sc_marked.nd (pi_seq (pv 0)) (blkOk_by (N := ["gaps", "q", "gap"]) (sc := defScope s_marked) (by decide +kernel)) (fun _ _ _ _ _ => pg_name (i := 2) sc_marked.nd rfl (Or.inl rfl)) (fun _ _ _ _ _ => pts_nil) (fun _ _ _ _ _ => pe_tup (pa_cons (pv 2) (pa_cons pe_int (pa_cons (pe_cmpR op_ge (pv 2) (pv 1) (by rfl)) pa_nil))))))
theorem sc_added : FnScope ["steps", "step"] ["steps"] (defScope s_added) := ⟨rfl, rfl, rfl, by decide +kernel, rfl, by decide +kernel, by decide +kernel⟩
theorem b_added (kV doc pm : Value) (an : Option Addr) (cdv ct : Value) (us : List Value) (hl : us.length = 1) : bindArgs (PySem.W.fnOf "added" "added" (defArgs s_added) (defBody s_added) (defScope s_added) .none kV doc pm an cdv ct) ⟨us, []⟩ = pure ((["steps"] : List Str).zip us) := match us, hl with | [_], _ => rfl
def t_added (P : Program) (w : World) (K : PySem.W.Frag) (mg : Str → Option Value) (base : Heap) (j : Nat) : TS := tRet (tTup (tCons (tCB (rSum K) (tCons (tLc (iSeq K (tVar 0)) (gName 1) tYes (tOp (rIx K) (tVar 1) (tC (.int 0))) [1]) tNil)) (tCons (tCB (rSum K) (tCons (tLc (iSeq K (tVar 0)) (gName 1) tYes (tOp (rIx K) (tVar 1) (tC (.int 1))) [1]) tNil)) tNil)))
theorem d_added {P : Program} {w : World} {K : PySem.W.Frag} {mg : Str → Option Value} {base : Heap} (T : Tx K mg) {j : Nat} {f : Addr} {cdv : Value} {A : Around} {outer : List Env} {s : Shared} {H : Hp} {E : XK} (hr : Room j (A.deeper (envOfC "added" (defScope s_added) s.heap.objs.size f cdv))) :
    PSs (cxOf C0 P w K mg base ["steps", "step"] "added" (defScope s_added) f cdv A outer s H E).nox (defBody s_added) (t_added P w K mg base j) := by
  exact pss_one (ps_ret (pe_tup (pa_cons (pe_callB (cr_sum rfl) (by rfl) T.free_sum PyProof.Rows.boot_sum (pa_cons (pe_lc (own := [("step", 1)]) rfl sc_added.nd (pi_seq (pv 0)) (blkOk_by (N := ["steps", "step"]) (sc := defScope s_added) (by decide +kernel)) (fun _ _ _ _ _ => pg_name (i := 1) sc_added.nd rfl (Or.inl rfl)) (fun _ _ _ _ _ => pts_nil) (fun _ _ _ _ _ => pe_ix ix_seq (pv 1) pe_int (fun _ _ => rfl))) pa_nil)) (pa_cons (pe_callB (cr_sum rfl) (by rfl) T.free_sum PyProof.Rows.boot_sum (pa_cons (pe_lc (own := [("step", 1)]) rfl sc_added.nd (pi_seq (pv 0)) (blkOk_by (N := ["steps", "step"]) (sc := defScope s_added) (by decide +kernel)) (fun _ _ _ _ _ => pg_name (i := 1) sc_added.nd rfl (Or.inl rfl)) (fun _ _ _ _ _ => pts_nil) (fun _ _ _ _ _ => pe_ix ix_seq (pv 1) pe_int (fun _ _ => rfl))) pa_nil)) pa_nil))))
theorem sc_joined_behind : FnScope ["steps", "found", "gap", "count", "is_quiet"] ["steps"] (defScope s_joined_behind) := ⟨rfl, rfl, rfl, by decide +kernel, rfl, by decide +kernel, by decide +kernel⟩
theorem b_joined_behind (kV doc pm : Value) (an : Option Addr) (cdv ct : Value) (us : List Value) (hl : us.length = 1) : bindArgs (PySem.W.fnOf "joined_behind" "joined_behind" (defArgs s_joined_behind) (defBody s_joined_behind) (defScope s_joined_behind) .none kV doc pm an cdv ct) ⟨us, []⟩ = pure ((["steps"] : List Str).zip us) := match us, hl with | [_], _ => rfl
def t_joined_behind (P : Program) (w : World) (K : PySem.W.Frag) (mg : Str → Option Value) (base : Heap) (j : Nat) : TS := tSeq (tAsg (tLst tNil) (gName 1)) (tSeq (tFor (iSeq K (tVar 0)) (gTup K 3 (gCons (gName 2) (gCons (gName 3) (gCons (gName 4) gNil)))) (tIfS (tTruV K (tVar 4)) (tDrop (tBM K "list" rAppend (tVar 1) (tCons (tTup (tCons (tVar 2) (tCons (tVar 3) tNil))) tNil))) (tIfS (tTest (tOp (rNeX K) (tVar 1) (tLst tNil))) (tAsg (tTup (tCons (tOp (rAddX K) (tOp (rIx K) (tOp (rIx K) (tVar 1) (tUn (rU fun i => .int (-i)) (tC (.int 1)))) (tC (.int 0))) (tVar 2)) (tCons (tOp (rAddX K) (tOp (rIx K) (tOp (rIx K) (tVar 1) (tUn (rU fun i => .int (-i)) (tC (.int 1)))) (tC (.int 1))) (tVar 3)) tNil))) (gSub (tVar 1) (tUn (rU fun i => .int (-i)) (tC (.int 1))) rSetL)) tNext))) (tRet (tVar 1)))
theorem d_joined_behind {P : Program} {w : World} {K : PySem.W.Frag} {mg : Str → Option Value} {base : Heap} (T : Tx K mg) {j : Nat} {f : Addr} {cdv : Value} {A : Around} {outer : List Env} {s : Shared} {H : Hp} {E : XK} (hr : Room j (A.deeper (envOfC "joined_behind" (defScope s_joined_behind) s.heap.objs.size f cdv))) :
    PSs (cxOf C0 P w K mg base ["steps", "found", "gap", "count", "is_quiet"] "joined_behind" (defScope s_joined_behind) f cdv A outer s H E).nox (defBody s_joined_behind) (t_joined_behind P w K mg base j) := by
  exact pss_cons (ps_set (i := 1) sc_joined_behind.nd rfl (Or.inl rfl) (pe_lst pa_nil)) (pss_cons (ps_for PassesOwn.never rfl (pi_seq (pv 0)) (pg_tup rfl (pgs_cons (pg_name (i := 2) sc_joined_behind.nd rfl (Or.inl rfl)) (pgs_cons (pg_name (i := 3) sc_joined_behind.nd rfl (Or.inl rfl)) (pgs_cons (pg_name (i := 4) sc_joined_behind.nd rfl (Or.inl rfl)) pgs_nil)))) (pss_one (ps_if (pt_truth (pv 4) (by intro _; rfl)) (pss_one (ps_expr (pe_bm PySem.F.plainAttrs_list PySem.F.slot_list_append PySem.F.type_list_append mt_append (pv 1) (pa_cons (pe_tup (pa_cons (pv 2) (pa_cons (pv 3) pa_nil))) pa_nil)))) (pss_one (ps_if (pt_cmpR (op_neX hr.units) (pv 1) (pe_lst pa_nil) (by rfl)) (pss_one (ps_asg (pe_tup (pa_cons (pe_op op_addX (pe_ix ix_seq (pe_ix ix_seq (pv 1) (pe_un un_neg pe_int) (fun _ _ => rfl)) pe_int (fun _ _ => rfl)) (pv 2)) (pa_cons (pe_op op_addX (pe_ix ix_seq (pe_ix ix_seq (pv 1) (pe_un un_neg pe_int) (fun _ _ => rfl)) pe_int (fun _ _ => rfl)) (pv 3)) pa_nil))) (pg_sub (pv 1) (pe_un un_neg pe_int) set_list))) pss_nil))))) (pss_one (ps_ret (pv 1))))
theorem sc_joined_ahead : FnScope ["steps", "found", "some", "step"] ["steps"] (defScope s_joined_ahead) := ⟨rfl, rfl, rfl, by decide +kernel, rfl, by decide +kernel, by decide +kernel⟩
theorem b_joined_ahead (kV doc pm : Value) (an : Option Addr) (cdv ct : Value) (us : List Value) (hl : us.length = 1) : bindArgs (PySem.W.fnOf "joined_ahead" "joined_ahead" (defArgs s_joined_ahead) (defBody s_joined_ahead) (defScope s_joined_ahead) .none kV doc pm an cdv ct) ⟨us, []⟩ = pure ((["steps"] : List Str).zip us) := match us, hl with | [_], _ => rfl
def t_joined_ahead (P : Program) (w : World) (K : PySem.W.Frag) (mg : Str → Option Value) (base : Heap) (j : Nat) : TS := tSeq (tPar 1 2 (tCons (tLst tNil) (tCons (tLst tNil) tNil))) (tSeq (tFor (iSeq K (tVar 0)) (gName 3) (tSeq (tDrop (tBM K "list" rAppend (tVar 2) (tCons (tVar 3) tNil))) (tIfS (tTruV K (tOp (rIx K) (tVar 3) (tC (.int 2)))) (tSeq (tDrop (tBM K "list" rAppend (tVar 1) (tCons (tCallX P w K mg base j "added" (tCons (tVar 2) tNil)) tNil))) (tAsg (tLst tNil) (gName 2))) tNext))) (tRet (tVar 1)))
theorem d_joined_ahead {P : Program} {w : World} {K : PySem.W.Frag} {mg : Str → Option Value} {base : Heap} (T : Tx K mg) {j : Nat} {f : Addr} {cdv : Value} {A : Around} {outer : List Env} {s : Shared} {H : Hp} {E : XK} (hr : Room j (A.deeper (envOfC "joined_ahead" (defScope s_joined_ahead) s.heap.objs.size f cdv))) :
    PSs (cxOf C0 P w K mg base ["steps", "found", "some", "step"] "joined_ahead" (defScope s_joined_ahead) f cdv A outer s H E).nox (defBody s_joined_ahead) (t_joined_ahead P w K mg base j) := by
  exact pss_cons (ps_par (by rfl) sc_joined_ahead.nd rfl rfl (by decide) rfl rfl (pa_cons (pe_lst pa_nil) (pa_cons (pe_lst pa_nil) pa_nil)) (by rfl)) (pss_cons (ps_for PassesOwn.never rfl (pi_seq (pv 0)) (pg_name (i := 3) sc_joined_ahead.nd rfl (Or.inl rfl)) (pss_cons (ps_expr (pe_bm PySem.F.plainAttrs_list PySem.F.slot_list_append PySem.F.type_list_append mt_append (pv 2) (pa_cons (pv 3) pa_nil))) (pss_one (ps_if (pt_truth (pe_ix ix_seq (pv 3) pe_int (fun _ _ => rfl)) (by intro _; rfl)) (pss_cons (ps_expr (pe_bm PySem.F.plainAttrs_list PySem.F.slot_list_append PySem.F.type_list_append mt_append (pv 1) (pa_cons (pe_cx hr (by rfl) (pa_cons (pv 2) pa_nil) (hm := T.hm_added)) pa_nil))) (pss_one (ps_set (i := 2) sc_joined_ahead.nd rfl (Or.inl rfl) (pe_lst pa_nil)))) pss_nil)))) (pss_one (ps_ret (pv 1))))
theorem sc_leading : FnScope ["steps", "found", "step"] ["steps"] (defScope s_leading) := ⟨rfl, rfl, rfl, by decide +kernel, rfl, by decide +kernel, by decide +kernel⟩
theorem b_leading (kV doc pm : Value) (an : Option Addr) (cdv ct : Value) (us : List Value) (hl : us.length = 1) : bindArgs (PySem.W.fnOf "leading" "leading" (defArgs s_leading) (defBody s_leading) (defScope s_leading) .none kV doc pm an cdv ct) ⟨us, []⟩ = pure ((["steps"] : List Str).zip us) := match us, hl with | [_], _ => rfl
def t_leading (P : Program) (w : World) (K : PySem.W.Frag) (mg : Str → Option Value) (base : Heap) (j : Nat) : TS := tSeq (tAsg (tLst tNil) (gName 1)) (tSeq (tFor (iSeq K (tVar 0)) (gName 2) (tSeq (tIfS (tTruV K (tOp (rIx K) (tVar 2) (tC (.int 2)))) (tRet (tVar 1)) tNext) (tDrop (tBM K "list" rAppend (tVar 1) (tCons (tVar 2) tNil))))) (tRet (tVar 1)))
theorem d_leading {P : Program} {w : World} {K : PySem.W.Frag} {mg : Str → Option Value} {base : Heap} (T : Tx K mg) {j : Nat} {f : Addr} {cdv : Value} {A : Around} {outer : List Env} {s : Shared} {H : Hp} {E : XK} (hr : Room j (A.deeper (envOfC "leading" (defScope s_leading) s.heap.objs.size f cdv))) :
    PSs (cxOf C0 P w K mg base ["steps", "found", "step"] "leading" (defScope s_leading) f cdv A outer s H E).nox (defBody s_leading) (t_leading P w K mg base j) := by
  exact pss_cons (ps_set (i := 1) sc_leading.nd rfl (Or.inl rfl) (pe_lst pa_nil)) (pss_cons (ps_for PassesOwn.never rfl (pi_seq (pv 0)) (pg_name (i := 2) sc_leading.nd rfl (Or.inl rfl)) (pss_cons (ps_if (pt_truth (pe_ix ix_seq (pv 2) pe_int (fun _ _ => rfl)) (by intro _; rfl)) (pss_one (ps_ret (pv 1))) pss_nil) (pss_one (ps_expr (pe_bm PySem.F.plainAttrs_list PySem.F.slot_list_append PySem.F.type_list_append mt_append (pv 1) (pa_cons (pv 2) pa_nil)))))) (pss_one (ps_ret (pv 1))))
theorem sc_CutD__initD_ : FnScope ["self", "ahead", "row", "rounds", "behind"] ["self", "ahead", "row", "rounds", "behind"] (defScope s_Cut_D_initD_) := ⟨rfl, rfl, rfl, by decide +kernel, rfl, by decide +kernel, by decide +kernel⟩
theorem b_CutD__initD_ (kV doc pm : Value) (an : Option Addr) (cdv ct : Value) (us : List Value) (hl : us.length = 5) : bindArgs (PySem.W.fnOf "__init__" "Cut.__init__" (defArgs s_Cut_D_initD_) (defBody s_Cut_D_initD_) (defScope s_Cut_D_initD_) .none kV doc pm an cdv ct) ⟨us, []⟩ = pure ((["self", "ahead", "row", "rounds", "behind"] : List Str).zip us) := match us, hl with | [_, _, _, _, _], _ => rfl
def t_CutD__initD_ (P : Program) (w : World) (K : PySem.W.Frag) (mg : Str → Option Value) (base : Heap) (j : Nat) : TS := tSeq (sFld K (tVar 0) (tVar 1) "ahead") (tSeq (sFld K (tVar 0) (tVar 2) "row") (tSeq (sFld K (tVar 0) (tVar 3) "rounds") (sFld K (tVar 0) (tVar 4) "rest")))
theorem d_CutD__initD_ {P : Program} {w : World} {K : PySem.W.Frag} {mg : Str → Option Value} {base : Heap} (T : Tx K mg) {j : Nat} {f : Addr} {cdv : Value} {A : Around} {outer : List Env} {s : Shared} {H : Hp} {E : XK} (hr : Room j (A.deeper (envOfC "Cut.__init__" (defScope s_Cut_D_initD_) s.heap.objs.size f cdv))) :
    PSs (cxOf C0 P w K mg base ["self", "ahead", "row", "rounds", "behind"] "Cut.__init__" (defScope s_Cut_D_initD_) f cdv A outer s H E).nox (defBody s_Cut_D_initD_) (t_CutD__initD_ P w K mg base j) := by
  exact pss_cons (ps_fld (pv 0) (pv 1) rfl) (pss_cons (ps_fld (pv 0) (pv 2) rfl) (pss_cons (ps_fld (pv 0) (pv 3) rfl) (pss_one (ps_fld (pv 0) (pv 4) rfl))))
theorem sc_cut_at_quiet : FnScope ["train", "q", "more", "head", "block", "end", "places", "gap", "count", "at", "place", "step"] ["train", "q", "more"] (defScope s_cut_at_quiet) := ⟨rfl, rfl, rfl, by decide +kernel, rfl, by decide +kernel, by decide +kernel⟩
theorem b_cut_at_quiet (kV doc pm : Value) (an : Option Addr) (cdv ct : Value) (us : List Value) (hl : us.length = 3) : bindArgs (PySem.W.fnOf "cut_at_quiet" "cut_at_quiet" (defArgs s_cut_at_quiet) (defBody s_cut_at_quiet) (defScope s_cut_at_quiet) .none kV doc pm an cdv ct) ⟨us, []⟩ = pure ((["train", "q", "more"] : List Str).zip us) := match us, hl with | [_, _, _], _ => rfl
def t_cut_at_quiet (P : Program) (w : World) (K : PySem.W.Frag) (mg : Str → Option Value) (base : Heap) (j : Nat) : TS := tSeq (tPar3 3 4 5 (tCons (tCallX P w K mg base j "marked" (tCons (tFld K (tVar 0) "head") (tCons (tVar 1) tNil))) (tCons (tCallX P w K mg base j "marked" (tCons (tFld K (tVar 0) "block") (tCons (tVar 1) tNil))) (tCons (tCallX P w K mg base j "marked" (tCons (tFld K (tVar 0) "end") (tCons (tVar 1) tNil))) tNil)))) (tSeq (tAsg (tLc (iEnumX K (tCons (tVar 4) tNil)) (gTup K 2 (gCons (gName 10) (gCons (gName 11) gNil))) (tTruV K (tOp (rIx K) (tVar 11) (tC (.int 2)))) (tVar 10) [10, 11]) (gName 6)) (tSeq (tIfS (tOr (tTest (tOp (rEqX K) (tFld K (tVar 0) "rounds") (tC (.int 0)))) (tTest (tOp (rEqX K) (tVar 4) (tLst tNil)))) (tRet (tMakeX P w K mg base j "Cut" (tCons (tOp (rAddX K) (tVar 3) (tVar 5)) (tCons (tLst tNil) (tCons (tC (.int 0)) (tCons (tLst tNil) tNil)))))) tNext) (tSeq (tIfS (tTest (tOp (rEqX K) (tVar 6) (tLst tNil))) (tSeq (tAsg (tCallX P w K mg base j "added" (tCons (tVar 4) tNil)) (gTup K 2 (gCons (gName 7) (gCons (gName 8) gNil)))) (tRet (tMakeX P w K mg base j "Cut" (tCons (tOp (rAddX K) (tOp (rAddX K) (tVar 3) (tLst (tCons (tTup (tCons (tOp rMulX (tVar 7) (tFld K (tVar 0) "rounds")) (tCons (tOp rMulX (tVar 8) (tFld K (tVar 0) "rounds")) (tCons (tC (.bl false)) tNil)))) tNil))) (tVar 5)) (tCons (tLst tNil) (tCons (tC (.int 0)) (tCons (tLst tNil) tNil))))))) tNext) (tSeq (tAsg (tOp (rAddX K) (tOp (rIx K) (tVar 6) (tC (.int 0))) (tVar 2)) (gName 9)) (tRet (tMakeX P w K mg base j "Cut" (tCons (tOp (rAddX K) (tVar 3) (tSl (rSlX K) (tVar 4) tNoPart (tPart (tVar 9)))) (tCons (tOp (rAddX K) (tSl (rSlX K) (tVar 4) (tPart (tVar 9)) tNoPart) (tSl (rSlX K) (tVar 4) tNoPart (tPart (tVar 9)))) (tCons (tOp (rI0 fun i j => .int (i - j)) (tFld K (tVar 0) "rounds") (tC (.int 1))) (tCons (tOp (rAddX K) (tSl (rSlX K) (tVar 4) (tPart (tVar 9)) tNoPart) (tVar 5)) tNil))))))))))
theorem d_cut_at_quiet {P : Program} {w : World} {K : PySem.W.Frag} {mg : Str → Option Value} {base : Heap} (T : Tx K mg) {j : Nat} {f : Addr} {cdv : Value} {A : Around} {outer : List Env} {s : Shared} {H : Hp} {E : XK} (hr : Room j (A.deeper (envOfC "cut_at_quiet" (defScope s_cut_at_quiet) s.heap.objs.size f cdv))) :
    PSs (cxOf C0 P w K mg base ["train", "q", "more", "head", "block", "end", "places", "gap", "count", "at", "place", "step"] "cut_at_quiet" (defScope s_cut_at_quiet) f cdv A outer s H E).nox (defBody s_cut_at_quiet) (t_cut_at_quiet P w K mg base j) := by
  exact pss_cons (ps_par3 (by rfl) sc_cut_at_quiet.nd rfl rfl rfl (by decide) (by decide) (by decide) rfl rfl rfl (pa_cons (pe_cx hr (by rfl) (pa_cons (pe_fld (pv 0) rfl) (pa_cons (pv 1) pa_nil)) (hm := T.hm_marked)) (pa_cons (pe_cx hr (by rfl) (pa_cons (pe_fld (pv 0) rfl) (pa_cons (pv 1) pa_nil)) (hm := T.hm_marked)) (pa_cons (pe_cx hr (by rfl) (pa_cons (pe_fld (pv 0) rfl) (pa_cons (pv 1) pa_nil)) (hm := T.hm_marked)) pa_nil))) (by rfl)) (pss_cons (ps_setLc (i := 6) (own := [("place", 10), ("step", 11)]) rfl sc_cut_at_quiet.nd rfl rfl (sw_true rfl rfl rfl (by decide +kernel)) (pi_enumX (by rfl) T.free_enumerate (pa_cons (pv 4) pa_nil)) (blkOk_by (N := ["train", "q", "more", "head", "block", "end", "places", "gap", "count", "at", "place", "step"]) (sc := defScope s_cut_at_quiet) (by decide +kernel)) (fun _ _ _ _ _ => pg_tup rfl (pgs_cons (pg_name (i := 10) sc_cut_at_quiet.nd rfl (Or.inl rfl)) (pgs_cons (pg_name (i := 11) sc_cut_at_quiet.nd rfl (Or.inl rfl)) pgs_nil))) (fun _ _ _ _ _ => pts_one (pt_truth (pe_ix ix_seq (pv 11) pe_int (fun _ _ => rfl)) (by intro _; rfl))) (fun _ _ _ _ _ => pv 10)) (pss_cons (ps_if (PW.pt (pw_or (pt_cmpR (op_eqX hr.units) (pe_fld (pv 0) rfl) pe_int (by rfl)) (pw_or1 (pt_cmpR (op_eqX hr.units) (pv 4) (pe_lst pa_nil) (by rfl))))) (pss_one (ps_ret (pe_kx hr (by rfl) (pa_cons (pe_op op_addX (pv 3) (pv 5)) (pa_cons (pe_lst pa_nil) (pa_cons pe_int (pa_cons (pe_lst pa_nil) pa_nil)))) (hm := T.hm_Cut)))) pss_nil) (pss_cons (ps_if (pt_cmpR (op_eqX hr.units) (pv 6) (pe_lst pa_nil) (by rfl)) (pss_cons (ps_asg (pe_cx hr (by rfl) (pa_cons (pv 4) pa_nil) (hm := T.hm_added)) (pg_tup rfl (pgs_cons (pg_name (i := 7) sc_cut_at_quiet.nd rfl (Or.inl rfl)) (pgs_cons (pg_name (i := 8) sc_cut_at_quiet.nd rfl (Or.inl rfl)) pgs_nil)))) (pss_one (ps_ret (pe_kx hr (by rfl) (pa_cons (pe_op op_addX (pe_op op_addX (pv 3) (pe_lst (pa_cons (pe_tup (pa_cons (pe_op op_mulX (pv 7) (pe_fld (pv 0) rfl)) (pa_cons (pe_op op_mulX (pv 8) (pe_fld (pv 0) rfl)) (pa_cons pe_bl pa_nil)))) pa_nil))) (pv 5)) (pa_cons (pe_lst pa_nil) (pa_cons pe_int (pa_cons (pe_lst pa_nil) pa_nil)))) (hm := T.hm_Cut))))) pss_nil) (pss_cons (ps_set (i := 9) sc_cut_at_quiet.nd rfl (Or.inl rfl) (pe_op op_addX (pe_ix ix_seq (pv 6) pe_int (fun _ _ => rfl)) (pv 2))) (pss_one (ps_ret (pe_kx hr (by rfl) (pa_cons (pe_op op_addX (pv 3) (pe_slice sl_X (pv 4) po_none (po_some (pv 9)))) (pa_cons (pe_op op_addX (pe_slice sl_X (pv 4) (po_some (pv 9)) po_none) (pe_slice sl_X (pv 4) po_none (po_some (pv 9)))) (pa_cons (pe_op op_sub (pe_fld (pv 0) rfl) pe_int) (pa_cons (pe_op op_addX (pe_slice sl_X (pv 4) (po_some (pv 9)) po_none) (pv 5)) pa_nil)))) (hm := T.hm_Cut))))))))
theorem sc_trains_of : FnScope ["start", "cut", "found", "at", "ahead", "row", "rest", "some", "step"] ["start", "cut"] (defScope s_trains_of) := ⟨rfl, rfl, rfl, by decide +kernel, rfl, by decide +kernel, by decide +kernel⟩
theorem b_trains_of (kV doc pm : Value) (an : Option Addr) (cdv ct : Value) (us : List Value) (hl : us.length = 2) : bindArgs (PySem.W.fnOf "trains_of" "trains_of" (defArgs s_trains_of) (defBody s_trains_of) (defScope s_trains_of) .none kV doc pm an cdv ct) ⟨us, []⟩ = pure ((["start", "cut"] : List Str).zip us) := match us, hl with | [_, _], _ => rfl
def t_trains_of (P : Program) (w : World) (K : PySem.W.Frag) (mg : Str → Option Value) (base : Heap) (j : Nat) : TS := tSeq (tAsg (tLst tNil) (gName 2)) (tSeq (tFor (iSeq K (tTup (tCons (tC (.int 0)) (tCons (tC (.int 1)) tNil)))) (gName 3) (tSeq (tAsg (tLc (iSeq K (tTup (tCons (tFld K (tVar 1) "ahead") (tCons (tFld K (tVar 1) "row") (tCons (tFld K (tVar 1) "rest") tNil))))) (gName 7) tYes (tLc (iSeq K (tVar 7)) (gName 8) tYes (tOp (rIx K) (tVar 8) (tVar 3)) [8]) [7]) (gUnl K 3 (gCons (gName 4) (gCons (gName 5) (gCons (gName 6) gNil))))) (tDrop (tBM K "list" rAppend (tVar 2) (tCons (tMakeX P w K mg base j "Train" (tCons (tOp (rIx K) (tVar 0) (tVar 3)) (tCons (tVar 4) (tCons (tVar 5) (tCons (tFld K (tVar 1) "rounds") (tCons (tVar 6) tNil)))))) tNil))))) (tRet (tVar 2)))
theorem d_trains_of {P : Program} {w : World} {K : PySem.W.Frag} {mg : Str → Option Value} {base : Heap} (T : Tx K mg) {j : Nat} {f : Addr} {cdv : Value} {A : Around} {outer : List Env} {s : Shared} {H : Hp} {E : XK} (hr : Room j (A.deeper (envOfC "trains_of" (defScope s_trains_of) s.heap.objs.size f cdv))) :
    PSs (cxOf C0 P w K mg base ["start", "cut", "found", "at", "ahead", "row", "rest", "some", "step"] "trains_of" (defScope s_trains_of) f cdv A outer s H E).nox (defBody s_trains_of) (t_trains_of P w K mg base j) := by
  exact pss_cons (ps_set (i := 2) sc_trains_of.nd rfl (Or.inl rfl) (pe_lst pa_nil)) (pss_cons (ps_for PassesOwn.never rfl (pi_seq (pe_tup (pa_cons pe_int (pa_cons pe_int pa_nil)))) (pg_name (i := 3) sc_trains_of.nd rfl (Or.inr rfl)) (pss_cons (ps_asg (pe_lc (own := [("some", 7)]) rfl sc_trains_of.nd (pi_seq (pe_tup (pa_cons (pe_fld (pv 1) rfl) (pa_cons (pe_fld (pv 1) rfl) (pa_cons (pe_fld (pv 1) rfl) pa_nil))))) (blkOk_by (N := ["start", "cut", "found", "at", "ahead", "row", "rest", "some", "step"]) (sc := defScope s_trains_of) (by decide +kernel)) (fun _ _ _ _ _ => pg_name (i := 7) sc_trains_of.nd rfl (Or.inl rfl)) (fun _ _ _ _ _ => pts_nil) (fun _ _ _ _ _ => pe_lc (own := [("step", 8)]) rfl sc_trains_of.nd (pi_seq (pv 7)) (blkOk_by (N := ["start", "cut", "found", "at", "ahead", "row", "rest", "some", "step"]) (sc := { kind := .function, names := [(".0", .local), ("some", .local), ("at", .cell)], isGenerator := false, isCoroutine := false, more := [] }) (by decide +kernel)) (fun _ _ _ _ _ => pg_name (i := 8) sc_trains_of.nd rfl (Or.inl rfl)) (fun _ _ _ _ _ => pts_nil) (fun _ _ _ _ _ => pe_ix ix_seq (pv 8) (pv 3) (fun _ _ => rfl)))) (pg_unl rfl (pgs_cons (pg_name (i := 4) sc_trains_of.nd rfl (Or.inl rfl)) (pgs_cons (pg_name (i := 5) sc_trains_of.nd rfl (Or.inl rfl)) (pgs_cons (pg_name (i := 6) sc_trains_of.nd rfl (Or.inl rfl)) pgs_nil))))) (pss_one (ps_expr (pe_bm PySem.F.plainAttrs_list PySem.F.slot_list_append PySem.F.type_list_append mt_append (pv 2) (pa_cons (pe_kx hr (by rfl) (pa_cons (pe_ix ix_seq (pv 0) (pv 3) (fun _ _ => rfl)) (pa_cons (pv 4) (pa_cons (pv 5) (pa_cons (pe_fld (pv 1) rfl) (pa_cons (pv 6) pa_nil))))) (hm := T.hm_Train)) pa_nil)))))) (pss_one (ps_ret (pv 2))))
theorem sc_last_trains : FnScope ["q", "train", "cut", "gap", "count", "pieces", "some"] ["q", "train"] (defScope s_last_trains) := ⟨rfl, rfl, rfl, by decide +kernel, rfl, by decide +kernel, by decide +kernel⟩
theorem b_last_trains (kV doc pm : Value) (an : Option Addr) (cdv ct : Value) (us : List Value) (hl : us.length = 2) : bindArgs (PySem.W.fnOf "last_trains" "last_trains" (defArgs s_last_trains) (defBody s_last_trains) (defScope s_last_trains) .none kV doc pm an cdv ct) ⟨us, []⟩ = pure ((["q", "train"] : List Str).zip us) := match us, hl with | [_, _], _ => rfl
def t_last_trains (P : Program) (w : World) (K : PySem.W.Frag) (mg : Str → Option Value) (base : Heap) (j : Nat) : TS := tSeq (tAsg (tCallX P w K mg base j "cut_at_quiet" (tCons (tVar 1) (tCons (tVar 0) (tCons (tC (.int 0)) tNil)))) (gName 2)) (tSeq (tAsg (tCallX P w K mg base j "added" (tCons (tCallX P w K mg base j "leading" (tCons (tFld K (tVar 2) "ahead") tNil)) tNil)) (gTup K 2 (gCons (gName 3) (gCons (gName 4) gNil)))) (tSeq (tAsg (tLc (iSeq K (tTup (tCons (tFld K (tVar 2) "ahead") (tCons (tFld K (tVar 2) "row") (tCons (tFld K (tVar 2) "rest") tNil))))) (gName 6) tYes (tCallX P w K mg base j "joined_behind" (tCons (tVar 6) tNil)) [6]) (gName 5)) (tRet (tCallX P w K mg base j "trains_of" (tCons (tTup (tCons (tOp (rAddX K) (tFld K (tVar 1) "first") (tVar 3)) (tCons (tVar 4) tNil))) (tCons (tMakeX P w K mg base j "Cut" (tCons (tOp (rIx K) (tVar 5) (tC (.int 0))) (tCons (tOp (rIx K) (tVar 5) (tC (.int 1))) (tCons (tFld K (tVar 2) "rounds") (tCons (tOp (rIx K) (tVar 5) (tC (.int 2))) tNil))))) tNil))))))
theorem d_last_trains {P : Program} {w : World} {K : PySem.W.Frag} {mg : Str → Option Value} {base : Heap} (T : Tx K mg) {j : Nat} {f : Addr} {cdv : Value} {A : Around} {outer : List Env} {s : Shared} {H : Hp} {E : XK} (hr : Room j (A.deeper (envOfC "last_trains" (defScope s_last_trains) s.heap.objs.size f cdv))) :
    PSs (cxOf C0 P w K mg base ["q", "train", "cut", "gap", "count", "pieces", "some"] "last_trains" (defScope s_last_trains) f cdv A outer s H E).nox (defBody s_last_trains) (t_last_trains P w K mg base j) := by
  exact pss_cons (ps_set (i := 2) sc_last_trains.nd rfl (Or.inl rfl) (pe_cx hr (by rfl) (pa_cons (pv 1) (pa_cons (pv 0) (pa_cons pe_int pa_nil))) (hm := T.hm_cut_at_quiet))) (pss_cons (ps_asg (pe_cx hr (by rfl) (pa_cons (pe_cx hr (by rfl) (pa_cons (pe_fld (pv 2) rfl) pa_nil) (hm := T.hm_leading)) pa_nil) (hm := T.hm_added)) (pg_tup rfl (pgs_cons (pg_name (i := 3) sc_last_trains.nd rfl (Or.inl rfl)) (pgs_cons (pg_name (i := 4) sc_last_trains.nd rfl (Or.inl rfl)) pgs_nil)))) (pss_cons (ps_setLc (i := 5) (own := [("some", 6)]) rfl sc_last_trains.nd rfl rfl (sw_true rfl rfl rfl (by decide +kernel)) (pi_seq (pe_tup (pa_cons (pe_fld (pv 2) rfl) (pa_cons (pe_fld (pv 2) rfl) (pa_cons (pe_fld (pv 2) rfl) pa_nil))))) (blkOk_by (N := ["q", "train", "cut", "gap", "count", "pieces", "some"]) (sc := defScope s_last_trains) (by decide +kernel)) (fun _ _ _ _ _ => pg_name (i := 6) sc_last_trains.nd rfl (Or.inl rfl)) (fun _ _ _ _ _ => pts_nil) (fun _ _ _ _ _ => pe_cx hr (by rfl) (pa_cons (pv 6) pa_nil) (hm := T.hm_joined_behind))) (pss_one (ps_ret (pe_cx hr (by rfl) (pa_cons (pe_tup (pa_cons (pe_op op_addX (pe_fld (pv 1) rfl) (pv 3)) (pa_cons (pv 4) pa_nil))) (pa_cons (pe_kx hr (by rfl) (pa_cons (pe_ix ix_seq (pv 5) pe_int (fun _ _ => rfl)) (pa_cons (pe_ix ix_seq (pv 5) pe_int (fun _ _ => rfl)) (pa_cons (pe_fld (pv 2) rfl) (pa_cons (pe_ix ix_seq (pv 5) pe_int (fun _ _ => rfl)) pa_nil)))) (hm := T.hm_Cut)) pa_nil)) (hm := T.hm_trains_of))))))
theorem sc_first_trains : FnScope ["q", "train", "cut", "pieces", "some"] ["q", "train"] (defScope s_first_trains) := ⟨rfl, rfl, rfl, by decide +kernel, rfl, by decide +kernel, by decide +kernel⟩
theorem b_first_trains (kV doc pm : Value) (an : Option Addr) (cdv ct : Value) (us : List Value) (hl : us.length = 2) : bindArgs (PySem.W.fnOf "first_trains" "first_trains" (defArgs s_first_trains) (defBody s_first_trains) (defScope s_first_trains) .none kV doc pm an cdv ct) ⟨us, []⟩ = pure ((["q", "train"] : List Str).zip us) := match us, hl with | [_, _], _ => rfl
def t_first_trains (P : Program) (w : World) (K : PySem.W.Frag) (mg : Str → Option Value) (base : Heap) (j : Nat) : TS := tSeq (tAsg (tCallX P w K mg base j "cut_at_quiet" (tCons (tVar 1) (tCons (tVar 0) (tCons (tC (.int 1)) tNil)))) (gName 2)) (tSeq (tAsg (tLc (iSeq K (tTup (tCons (tFld K (tVar 2) "ahead") (tCons (tFld K (tVar 2) "row") (tCons (tFld K (tVar 2) "rest") tNil))))) (gName 4) tYes (tCallX P w K mg base j "joined_ahead" (tCons (tVar 4) tNil)) [4]) (gName 3)) (tRet (tCallX P w K mg base j "trains_of" (tCons (tTup (tCons (tFld K (tVar 1) "first") (tCons (tC (.int 0)) tNil))) (tCons (tMakeX P w K mg base j "Cut" (tCons (tOp (rIx K) (tVar 3) (tC (.int 0))) (tCons (tOp (rIx K) (tVar 3) (tC (.int 1))) (tCons (tFld K (tVar 2) "rounds") (tCons (tOp (rIx K) (tVar 3) (tC (.int 2))) tNil))))) tNil)))))
theorem d_first_trains {P : Program} {w : World} {K : PySem.W.Frag} {mg : Str → Option Value} {base : Heap} (T : Tx K mg) {j : Nat} {f : Addr} {cdv : Value} {A : Around} {outer : List Env} {s : Shared} {H : Hp} {E : XK} (hr : Room j (A.deeper (envOfC "first_trains" (defScope s_first_trains) s.heap.objs.size f cdv))) :
    PSs (cxOf C0 P w K mg base ["q", "train", "cut", "pieces", "some"] "first_trains" (defScope s_first_trains) f cdv A outer s H E).nox (defBody s_first_trains) (t_first_trains P w K mg base j) := by
  exact pss_cons (ps_set (i := 2) sc_first_trains.nd rfl (Or.inl rfl) (pe_cx hr (by rfl) (pa_cons (pv 1) (pa_cons (pv 0) (pa_cons pe_int pa_nil))) (hm := T.hm_cut_at_quiet))) (pss_cons (ps_setLc (i := 3) (own := [("some", 4)]) rfl sc_first_trains.nd rfl rfl (sw_true rfl rfl rfl (by decide +kernel)) (pi_seq (pe_tup (pa_cons (pe_fld (pv 2) rfl) (pa_cons (pe_fld (pv 2) rfl) (pa_cons (pe_fld (pv 2) rfl) pa_nil))))) (blkOk_by (N := ["q", "train", "cut", "pieces", "some"]) (sc := defScope s_first_trains) (by decide +kernel)) (fun _ _ _ _ _ => pg_name (i := 4) sc_first_trains.nd rfl (Or.inl rfl)) (fun _ _ _ _ _ => pts_nil) (fun _ _ _ _ _ => pe_cx hr (by rfl) (pa_cons (pv 4) pa_nil) (hm := T.hm_joined_ahead))) (pss_one (ps_ret (pe_cx hr (by rfl) (pa_cons (pe_tup (pa_cons (pe_fld (pv 1) rfl) (pa_cons pe_int pa_nil))) (pa_cons (pe_kx hr (by rfl) (pa_cons (pe_ix ix_seq (pv 3) pe_int (fun _ _ => rfl)) (pa_cons (pe_ix ix_seq (pv 3) pe_int (fun _ _ => rfl)) (pa_cons (pe_fld (pv 2) rfl) (pa_cons (pe_ix ix_seq (pv 3) pe_int (fun _ _ => rfl)) pa_nil)))) (hm := T.hm_Cut)) pa_nil)) (hm := T.hm_trains_of)))))
theorem sc_member_trains : FnScope ["member", "train"] ["member", "train"] (defScope s_member_trains) := ⟨rfl, rfl, rfl, by decide +kernel, rfl, by decide +kernel, by decide +kernel⟩
theorem b_member_trains (kV doc pm : Value) (an : Option Addr) (cdv ct : Value) (us : List Value) (hl : us.length = 2) : bindArgs (PySem.W.fnOf "member_trains" "member_trains" (defArgs s_member_trains) (defBody s_member_trains) (defScope s_member_trains) .none kV doc pm an cdv ct) ⟨us, []⟩ = pure ((["member", "train"] : List Str).zip us) := match us, hl with | [_, _], _ => rfl
def t_member_trains (P : Program) (w : World) (K : PySem.W.Frag) (mg : Str → Option Value) (base : Heap) (j : Nat) : TS := tSeq (tIfS (tTruV K (tCB (rIsi K) (tCons (tVar 0) (tCons (tC (.ref (He.ga K "Last"))) tNil)))) (tRet (tCallX P w K mg base j "last_trains" (tCons (tFld K (tVar 0) "q") (tCons (tVar 1) tNil)))) tNext) (tSeq (tIfS (tTruV K (tCB (rIsi K) (tCons (tVar 0) (tCons (tC (.ref (He.ga K "First"))) tNil)))) (tRet (tCallX P w K mg base j "first_trains" (tCons (tFld K (tVar 0) "q") (tCons (tVar 1) tNil)))) tNext) (tSeq (tIfS (tTruV K (tCB (rIsi K) (tCons (tVar 0) (tCons (tC (.ref (He.ga K "Limit"))) tNil)))) tNever tNext) (tRet (tLst (tCons (tVar 1) (tCons (tMakeX P w K mg base j "Train" (tCons (tC (.int 0)) (tCons (tLst tNil) (tCons (tLst (tCons (tC (.int 1)) tNil)) (tCons (tOp (rI0 fun i j => .int (i - j)) (tCallX P w K mg base j "amount_of" (tCons (tVar 1) tNil)) (tC (.int 1))) (tCons (tLst tNil) tNil)))))) tNil))))))
theorem d_member_trains {P : Program} {w : World} {K : PySem.W.Frag} {mg : Str → Option Value} {base : Heap} (T : Tx K mg) {j : Nat} {f : Addr} {cdv : Value} {A : Around} {outer : List Env} {s : Shared} {H : Hp} {E : XK} (hr : Room j (A.deeper (envOfC "member_trains" (defScope s_member_trains) s.heap.objs.size f cdv))) :
    PSs (cxOf C0 P w K mg base ["member", "train"] "member_trains" (defScope s_member_trains) f cdv A outer s H E).nox (defBody s_member_trains) (t_member_trains P w K mg base j) := by
  exact pss_cons (ps_if (pt_truth (pe_callB call_isi (by rfl) T.free_isinstance PyProof.Rows.boot_isinstance (pa_cons (pv 0) (pa_cons (C8.pe_gc (by rfl) T.gl_Last) pa_nil))) (by intro _; rfl)) (pss_one (ps_ret (pe_cx hr (by rfl) (pa_cons (pe_fld (pv 0) rfl) (pa_cons (pv 1) pa_nil)) (hm := T.hm_last_trains)))) pss_nil) (pss_cons (ps_if (pt_truth (pe_callB call_isi (by rfl) T.free_isinstance PyProof.Rows.boot_isinstance (pa_cons (pv 0) (pa_cons (C8.pe_gc (by rfl) T.gl_First) pa_nil))) (by intro _; rfl)) (pss_one (ps_ret (pe_cx hr (by rfl) (pa_cons (pe_fld (pv 0) rfl) (pa_cons (pv 1) pa_nil)) (hm := T.hm_first_trains)))) pss_nil) (pss_cons (ps_if (pt_truth (pe_callB call_isi (by rfl) T.free_isinstance PyProof.Rows.boot_isinstance (pa_cons (pv 0) (pa_cons (C8.pe_gc (by rfl) T.gl_Limit) pa_nil))) (by intro _; rfl)) (pss_one ps_never) pss_nil) (pss_one (ps_ret (pe_lst (pa_cons (pv 1) (pa_cons (pe_kx hr (by rfl) (pa_cons pe_int (pa_cons (pe_lst pa_nil) (pa_cons (pe_lst (pa_cons pe_int pa_nil)) (pa_cons (pe_op op_sub (pe_cx hr (by rfl) (pa_cons (pv 1) pa_nil) (hm := T.hm_amount_of)) pe_int) (pa_cons (pe_lst pa_nil) pa_nil))))) (hm := T.hm_Train)) pa_nil)))))))
theorem sc_levels_of : FnScope ["row", "train", "found", "member", "times", "numbers"] ["row", "train"] (defScope s_levels_of) := ⟨rfl, rfl, rfl, by decide +kernel, rfl, by decide +kernel, by decide +kernel⟩
theorem b_levels_of (kV doc pm : Value) (an : Option Addr) (cdv ct : Value) (us : List Value) (hl : us.length = 2) : bindArgs (PySem.W.fnOf "levels_of" "levels_of" (defArgs s_levels_of) (defBody s_levels_of) (defScope s_levels_of) .none kV doc pm an cdv ct) ⟨us, []⟩ = pure ((["row", "train"] : List Str).zip us) := match us, hl with | [_, _], _ => rfl
def t_levels_of (P : Program) (w : World) (K : PySem.W.Frag) (mg : Str → Option Value) (base : Heap) (j : Nat) : TS := tSeq (tAsg (tLst tNil) (gName 2)) (tSeq (tFor (iSeq K (tFld K (tVar 0) "members")) (gName 3) (tSeq (tAsg (tCallX P w K mg base j "member_trains" (tCons (tVar 3) (tCons (tVar 1) tNil))) (gUnl K 2 (gCons (gName 4) (gCons (gName 5) gNil)))) (tSeq (tDrop (tBM K "list" rAppend (tVar 2) (tCons (tTup (tCons (tVar 3) (tCons (tMakeX P w K mg base j "Ruler" (tCons (tVar 5) tNil)) (tCons (tCallX P w K mg base j "amount_of" (tCons (tVar 1) tNil)) tNil)))) tNil))) (tAsg (tVar 4) (gName 1))))) (tRet (tTup (tCons (tVar 2) (tCons (tVar 1) tNil)))))
theorem d_levels_of {P : Program} {w : World} {K : PySem.W.Frag} {mg : Str → Option Value} {base : Heap} (T : Tx K mg) {j : Nat} {f : Addr} {cdv : Value} {A : Around} {outer : List Env} {s : Shared} {H : Hp} {E : XK} (hr : Room j (A.deeper (envOfC "levels_of" (defScope s_levels_of) s.heap.objs.size f cdv))) :
    PSs (cxOf C0 P w K mg base ["row", "train", "found", "member", "times", "numbers"] "levels_of" (defScope s_levels_of) f cdv A outer s H E).nox (defBody s_levels_of) (t_levels_of P w K mg base j) := by
  exact pss_cons (ps_set (i := 2) sc_levels_of.nd rfl (Or.inl rfl) (pe_lst pa_nil)) (pss_cons (ps_for PassesOwn.never rfl (pi_seq (pe_fld (pv 0) rfl)) (pg_name (i := 3) sc_levels_of.nd rfl (Or.inl rfl)) (pss_cons (ps_asg (pe_cx hr (by rfl) (pa_cons (pv 3) (pa_cons (pv 1) pa_nil)) (hm := T.hm_member_trains)) (pg_unl rfl (pgs_cons (pg_name (i := 4) sc_levels_of.nd rfl (Or.inl rfl)) (pgs_cons (pg_name (i := 5) sc_levels_of.nd rfl (Or.inl rfl)) pgs_nil)))) (pss_cons (ps_expr (pe_bm PySem.F.plainAttrs_list PySem.F.slot_list_append PySem.F.type_list_append mt_append (pv 2) (pa_cons (pe_tup (pa_cons (pv 3) (pa_cons (pe_kx hr (by rfl) (pa_cons (pv 5) pa_nil) (hm := T.hm_Ruler)) (pa_cons (pe_cx hr (by rfl) (pa_cons (pv 1) pa_nil) (hm := T.hm_amount_of)) pa_nil)))) pa_nil))) (pss_one (ps_set (i := 1) sc_levels_of.nd rfl (Or.inl rfl) (pv 4)))))) (pss_one (ps_ret (pe_tup (pa_cons (pv 2) (pa_cons (pv 1) pa_nil))))))
theorem sc_train_told : FnScope ["row", "train", "found"] ["row", "train"] (defScope s_train_told) := ⟨rfl, rfl, rfl, by decide +kernel, rfl, by decide +kernel, by decide +kernel⟩
theorem b_train_told (kV doc pm : Value) (an : Option Addr) (cdv ct : Value) (us : List Value) (hl : us.length = 2) : bindArgs (PySem.W.fnOf "train_told" "train_told" (defArgs s_train_told) (defBody s_train_told) (defScope s_train_told) .none kV doc pm an cdv ct) ⟨us, []⟩ = pure ((["row", "train"] : List Str).zip us) := match us, hl with | [_, _], _ => rfl
def t_train_told (P : Program) (w : World) (K : PySem.W.Frag) (mg : Str → Option Value) (base : Heap) (j : Nat) : TS := tSeq (tAsg (tOp (rIx K) (tCallX P w K mg base j "levels_of" (tCons (tVar 0) (tCons (tVar 1) tNil))) (tC (.int 1))) (gName 2)) (tRet (tMakeX P w K mg base j "Train" (tCons (tOp (rAddX K) (tFld K (tVar 2) "first") (tMethX P w K mg base j "delays" (tVar 0) tNil)) (tCons (tFld K (tVar 2) "head") (tCons (tFld K (tVar 2) "block") (tCons (tFld K (tVar 2) "rounds") (tCons (tFld K (tVar 2) "end") tNil)))))))
theorem d_train_told {P : Program} {w : World} {K : PySem.W.Frag} {mg : Str → Option Value} {base : Heap} (T : Tx K mg) {j : Nat} {f : Addr} {cdv : Value} {A : Around} {outer : List Env} {s : Shared} {H : Hp} {E : XK} (hr : Room j (A.deeper (envOfC "train_told" (defScope s_train_told) s.heap.objs.size f cdv))) :
    PSs (cxOf C0 P w K mg base ["row", "train", "found"] "train_told" (defScope s_train_told) f cdv A outer s H E).nox (defBody s_train_told) (t_train_told P w K mg base j) := by
  exact pss_cons (ps_set (i := 2) sc_train_told.nd rfl (Or.inl rfl) (pe_ix ix_seq (pe_cx hr (by rfl) (pa_cons (pv 0) (pa_cons (pv 1) pa_nil)) (hm := T.hm_levels_of)) pe_int (fun _ _ => rfl))) (pss_one (ps_ret (pe_kx hr (by rfl) (pa_cons (pe_op op_addX (pe_fld (pv 2) rfl) (pe_mx0 hr (pv 0))) (pa_cons (pe_fld (pv 2) rfl) (pa_cons (pe_fld (pv 2) rfl) (pa_cons (pe_fld (pv 2) rfl) (pa_cons (pe_fld (pv 2) rfl) pa_nil))))) (hm := T.hm_Train))))
end Qr

/-! #### Qdc -/
set_option maxHeartbeats 4000000
/-! Derivations. Printed by gen2.py. -/
namespace Qr
open PySem PySem.Spec PyProof.Rows L2

theorem sc_settled_tuple : FnScope ["things", "one"] ["things"] (defScope s_settled_tuple) := ⟨rfl, rfl, rfl, by decide +kernel, rfl, by decide +kernel, by decide +kernel⟩
theorem b_settled_tuple (kV doc pm : Value) (an : Option Addr) (cdv ct : Value) (us : List Value) (hl : us.length = 1) : bindArgs (PySem.W.fnOf "settled_tuple" "settled_tuple" (defArgs s_settled_tuple) (defBody s_settled_tuple) (defScope s_settled_tuple) .none kV doc pm an cdv ct) ⟨us, []⟩ = pure ((["things"] : List Str).zip us) := match us, hl with | [_], _ => rfl
def t_settled_tuple (P : Program) (w : World) (K : PySem.W.Frag) (mg : Str → Option Value) (base : Heap) (j : Nat) : TS := tRet (tThen (tLc (iSeq K (tVar 0)) (gName 1) tYes (tIf (tTruV K (tCB (rIsiT K) (tCons (tVar 1) (tCons (tTup (tCons (tC (.ty "list")) (tCons (tC (.ty "tuple")) tNil))) tNil)))) (tCallX P w K mg base j "settled_tuple" (tCons (tVar 1) tNil)) (tVar 1)) [1]) (kTup K))
theorem d_settled_tuple {P : Program} {w : World} {K : PySem.W.Frag} {mg : Str → Option Value} {base : Heap} (T : Tx K mg) {j : Nat} {f : Addr} {cdv : Value} {A : Around} {outer : List Env} {s : Shared} {H : Hp} {E : XK} (hr : Room j (A.deeper (envOfC "settled_tuple" (defScope s_settled_tuple) s.heap.objs.size f cdv))) :
    PSs (cxOf C0 P w K mg base ["things", "one"] "settled_tuple" (defScope s_settled_tuple) f cdv A outer s H E).nox (defBody s_settled_tuple) (t_settled_tuple P w K mg base j) := by
  exact pss_one (ps_ret (pe_tupleOf (by rfl) T.free_tuple (pe_lc (own := [("one", 1)]) rfl sc_settled_tuple.nd (pi_seq (pv 0)) (blkOk_by (N := ["things", "one"]) (sc := defScope s_settled_tuple) (by decide +kernel)) (fun _ _ _ _ _ => pg_name (i := 1) sc_settled_tuple.nd rfl (Or.inl rfl)) (fun _ _ _ _ _ => pts_nil) (fun _ _ _ _ _ => pe_ifExp (pt_truth (pe_callB call_isiT (by rfl) T.free_isinstance PyProof.Rows.boot_isinstance (pa_cons (pv 1) (pa_cons (pe_tup (pa_cons (pe_bltn (v := .ty "list") (by rfl) T.free_list PyProof.Rows.boot_list rfl) (pa_cons (pe_bltn (v := .ty "tuple") (by rfl) T.free_tuple PyProof.Rows.boot_tuple rfl) pa_nil))) pa_nil))) (by intro _; rfl)) (pe_cx hr (by rfl) (pa_cons (pv 1) pa_nil) (hm := T.hm_settled_tuple)) (pv 1)))))
theorem sc_is_member : FnScope ["thing"] ["thing"] (defScope s_is_member) := ⟨rfl, rfl, rfl, by decide +kernel, rfl, by decide +kernel, by decide +kernel⟩
theorem b_is_member (kV doc pm : Value) (an : Option Addr) (cdv ct : Value) (us : List Value) (hl : us.length = 1) : bindArgs (PySem.W.fnOf "is_member" "is_member" (defArgs s_is_member) (defBody s_is_member) (defScope s_is_member) .none kV doc pm an cdv ct) ⟨us, []⟩ = pure ((["thing"] : List Str).zip us) := match us, hl with | [_], _ => rfl
def t_is_member (P : Program) (w : World) (K : PySem.W.Frag) (mg : Str → Option Value) (base : Heap) (j : Nat) : TS := tRet (tCB (rIsiT K) (tCons (tVar 0) (tCons (tTup (tCons (tC (.ref (He.ga K "Last"))) (tCons (tC (.ref (He.ga K "First"))) (tCons (tC (.ref (He.ga K "Limit"))) (tCons (tC (.ref (He.ga K "Delay"))) tNil))))) tNil)))
theorem d_is_member {P : Program} {w : World} {K : PySem.W.Frag} {mg : Str → Option Value} {base : Heap} (T : Tx K mg) {j : Nat} {f : Addr} {cdv : Value} {A : Around} {outer : List Env} {s : Shared} {H : Hp} {E : XK} (hr : Room j (A.deeper (envOfC "is_member" (defScope s_is_member) s.heap.objs.size f cdv))) :
    PSs (cxOf C0 P w K mg base ["thing"] "is_member" (defScope s_is_member) f cdv A outer s H E).nox (defBody s_is_member) (t_is_member P w K mg base j) := by
  exact pss_one (ps_ret (pe_callB call_isiT (by rfl) T.free_isinstance PyProof.Rows.boot_isinstance (pa_cons (pv 0) (pa_cons (pe_tup (pa_cons (C8.pe_gc (by rfl) T.gl_Last) (pa_cons (C8.pe_gc (by rfl) T.gl_First) (pa_cons (C8.pe_gc (by rfl) T.gl_Limit) (pa_cons (C8.pe_gc (by rfl) T.gl_Delay) pa_nil))))) pa_nil))))
theorem sc_ToldD__initD_ : FnScope ["self", "number", "time", "first", "last"] ["self", "number", "time", "first", "last"] (defScope s_Told_D_initD_) := ⟨rfl, rfl, rfl, by decide +kernel, rfl, by decide +kernel, by decide +kernel⟩
theorem b_ToldD__initD_ (kV doc pm : Value) (an : Option Addr) (cdv ct : Value) (us : List Value) (hl : us.length = 5) : bindArgs (PySem.W.fnOf "__init__" "Told.__init__" (defArgs s_Told_D_initD_) (defBody s_Told_D_initD_) (defScope s_Told_D_initD_) .none kV doc pm an cdv ct) ⟨us, []⟩ = pure ((["self", "number", "time", "first", "last"] : List Str).zip us) := match us, hl with | [_, _, _, _, _], _ => rfl
def t_ToldD__initD_ (P : Program) (w : World) (K : PySem.W.Frag) (mg : Str → Option Value) (base : Heap) (j : Nat) : TS := tSeq (sFld K (tVar 0) (tVar 1) "number") (tSeq (sFld K (tVar 0) (tVar 2) "time") (tSeq (sFld K (tVar 0) (tVar 3) "first") (sFld K (tVar 0) (tVar 4) "last")))
theorem d_ToldD__initD_ {P : Program} {w : World} {K : PySem.W.Frag} {mg : Str → Option Value} {base : Heap} (T : Tx K mg) {j : Nat} {f : Addr} {cdv : Value} {A : Around} {outer : List Env} {s : Shared} {H : Hp} {E : XK} (hr : Room j (A.deeper (envOfC "Told.__init__" (defScope s_Told_D_initD_) s.heap.objs.size f cdv))) :
    PSs (cxOf C0 P w K mg base ["self", "number", "time", "first", "last"] "Told.__init__" (defScope s_Told_D_initD_) f cdv A outer s H E).nox (defBody s_Told_D_initD_) (t_ToldD__initD_ P w K mg base j) := by
  exact pss_cons (ps_fld (pv 0) (pv 1) rfl) (pss_cons (ps_fld (pv 0) (pv 2) rfl) (pss_cons (ps_fld (pv 0) (pv 3) rfl) (pss_one (ps_fld (pv 0) (pv 4) rfl))))
theorem sc_told_times : FnScope ["row", "stream", "late", "number"] ["row", "stream"] (defScope s_told_times) := ⟨rfl, rfl, rfl, by decide +kernel, rfl, by decide +kernel, by decide +kernel⟩
theorem b_told_times (kV doc pm : Value) (an : Option Addr) (cdv ct : Value) (us : List Value) (hl : us.length = 2) : bindArgs (PySem.W.fnOf "told_times" "told_times" (defArgs s_told_times) (defBody s_told_times) (defScope s_told_times) .none kV doc pm an cdv ct) ⟨us, []⟩ = pure ((["row", "stream"] : List Str).zip us) := match us, hl with | [_, _], _ => rfl
def t_told_times (P : Program) (w : World) (K : PySem.W.Frag) (mg : Str → Option Value) (base : Heap) (j : Nat) : TS := tSeq (tDrop (tCallX P w K mg base j "check_stream" (tCons (tVar 1) tNil))) (tSeq (tAsg (tMethX P w K mg base j "delays" (tVar 0) tNil) (gName 2)) (tRet (tLc (iSeq K (tCallX P w K mg base j "kept_numbers" (tCons (tVar 0) (tCons (tVar 1) tNil)))) (gName 3) tYes (tOp (rAddX K) (tOp (rIx K) (tVar 1) (tVar 3)) (tVar 2)) [3])))
theorem d_told_times {P : Program} {w : World} {K : PySem.W.Frag} {mg : Str → Option Value} {base : Heap} (T : Tx K mg) {j : Nat} {f : Addr} {cdv : Value} {A : Around} {outer : List Env} {s : Shared} {H : Hp} {E : XK} (hr : Room j (A.deeper (envOfC "told_times" (defScope s_told_times) s.heap.objs.size f cdv))) :
    PSs (cxOf C0 P w K mg base ["row", "stream", "late", "number"] "told_times" (defScope s_told_times) f cdv A outer s H E).nox (defBody s_told_times) (t_told_times P w K mg base j) := by
  exact pss_cons (ps_expr (pe_cx hr (by rfl) (pa_cons (pv 1) pa_nil) (hm := T.hm_check_stream))) (pss_cons (ps_set (i := 2) sc_told_times.nd rfl (Or.inr rfl) (pe_mx0 hr (pv 0))) (pss_one (ps_ret (pe_lc (own := [("number", 3)]) rfl sc_told_times.nd (pi_seq (pe_cx hr (by rfl) (pa_cons (pv 0) (pa_cons (pv 1) pa_nil)) (hm := T.hm_kept_numbers))) (blkOk_by (N := ["row", "stream", "late", "number"]) (sc := defScope s_told_times) (by decide +kernel)) (fun _ _ _ _ _ => pg_name (i := 3) sc_told_times.nd rfl (Or.inl rfl)) (fun _ _ _ _ _ => pts_nil) (fun _ _ _ _ _ => pe_op op_addX (pe_ix ix_seq (pv 1) (pv 3) (fun _ _ => rfl)) (pv 2))))))
theorem sc_NormalD__initD_ : FnScope ["self", "records", "delay"] ["self", "records", "delay"] (defScope s_Normal_D_initD_) := ⟨rfl, rfl, rfl, by decide +kernel, rfl, by decide +kernel, by decide +kernel⟩
theorem b_NormalD__initD_ (kV doc pm : Value) (an : Option Addr) (cdv ct : Value) (us : List Value) (hl : us.length = 3) : bindArgs (PySem.W.fnOf "__init__" "Normal.__init__" (defArgs s_Normal_D_initD_) (defBody s_Normal_D_initD_) (defScope s_Normal_D_initD_) .none kV doc pm an cdv ct) ⟨us, []⟩ = pure ((["self", "records", "delay"] : List Str).zip us) := match us, hl with | [_, _, _], _ => rfl
def t_NormalD__initD_ (P : Program) (w : World) (K : PySem.W.Frag) (mg : Str → Option Value) (base : Heap) (j : Nat) : TS := tSeq (sFld K (tVar 0) (tIf (tTruV K (tCB (rIsiT K) (tCons (tVar 1) (tCons (tTup (tCons (tC (.ty "list")) (tCons (tC (.ty "tuple")) tNil))) tNil)))) (tCallX P w K mg base j "settled_tuple" (tCons (tVar 1) tNil)) (tVar 1)) "records") (sFld K (tVar 0) (tVar 2) "delay")
theorem d_NormalD__initD_ {P : Program} {w : World} {K : PySem.W.Frag} {mg : Str → Option Value} {base : Heap} (T : Tx K mg) {j : Nat} {f : Addr} {cdv : Value} {A : Around} {outer : List Env} {s : Shared} {H : Hp} {E : XK} (hr : Room j (A.deeper (envOfC "Normal.__init__" (defScope s_Normal_D_initD_) s.heap.objs.size f cdv))) :
    PSs (cxOf C0 P w K mg base ["self", "records", "delay"] "Normal.__init__" (defScope s_Normal_D_initD_) f cdv A outer s H E).nox (defBody s_Normal_D_initD_) (t_NormalD__initD_ P w K mg base j) := by
  exact pss_cons (ps_fld (pv 0) (pe_ifExp (pt_truth (pe_callB call_isiT (by rfl) T.free_isinstance PyProof.Rows.boot_isinstance (pa_cons (pv 1) (pa_cons (pe_tup (pa_cons (pe_bltn (v := .ty "list") (by rfl) T.free_list PyProof.Rows.boot_list rfl) (pa_cons (pe_bltn (v := .ty "tuple") (by rfl) T.free_tuple PyProof.Rows.boot_tuple rfl) pa_nil))) pa_nil))) (by intro _; rfl)) (pe_cx hr (by rfl) (pa_cons (pv 1) pa_nil) (hm := T.hm_settled_tuple)) (pv 1)) rfl) (pss_one (ps_fld (pv 0) (pv 2) rfl))
theorem sc_Normal.class_name : FnScope ["self"] ["self"] (defScope s_Normal_class_name) := ⟨rfl, rfl, rfl, by decide +kernel, rfl, by decide +kernel, by decide +kernel⟩
theorem b_Normal.class_name (kV doc pm : Value) (an : Option Addr) (cdv ct : Value) (us : List Value) (hl : us.length = 1) : bindArgs (PySem.W.fnOf "class_name" "Normal.class_name" (defArgs s_Normal_class_name) (defBody s_Normal_class_name) (defScope s_Normal_class_name) .none kV doc pm an cdv ct) ⟨us, []⟩ = pure ((["self"] : List Str).zip us) := match us, hl with | [_], _ => rfl
def t_Normal.class_name (P : Program) (w : World) (K : PySem.W.Frag) (mg : Str → Option Value) (base : Heap) (j : Nat) : TS := tRet (tC (.str "normal"))
theorem d_Normal.class_name {P : Program} {w : World} {K : PySem.W.Frag} {mg : Str → Option Value} {base : Heap} (T : Tx K mg) {j : Nat} {f : Addr} {cdv : Value} {A : Around} {outer : List Env} {s : Shared} {H : Hp} {E : XK} (hr : Room j (A.deeper (envOfC "Normal.class_name" (defScope s_Normal_class_name) s.heap.objs.size f cdv))) :
    PSs (cxOf C0 P w K mg base ["self"] "Normal.class_name" (defScope s_Normal_class_name) f cdv A outer s H E).nox (defBody s_Normal_class_name) (t_Normal.class_name P w K mg base j) := by
  exact pss_one (ps_ret pe_str)
theorem sc_Normal.facts : FnScope ["self"] ["self"] (defScope s_Normal_facts) := ⟨rfl, rfl, rfl, by decide +kernel, rfl, by decide +kernel, by decide +kernel⟩
theorem b_Normal.facts (kV doc pm : Value) (an : Option Addr) (cdv ct : Value) (us : List Value) (hl : us.length = 1) : bindArgs (PySem.W.fnOf "facts" "Normal.facts" (defArgs s_Normal_facts) (defBody s_Normal_facts) (defScope s_Normal_facts) .none kV doc pm an cdv ct) ⟨us, []⟩ = pure ((["self"] : List Str).zip us) := match us, hl with | [_], _ => rfl
def t_Normal.facts (P : Program) (w : World) (K : PySem.W.Frag) (mg : Str → Option Value) (base : Heap) (j : Nat) : TS := tRet (tTup (tCons (tFld K (tVar 0) "records") (tCons (tFld K (tVar 0) "delay") tNil)))
theorem d_Normal.facts {P : Program} {w : World} {K : PySem.W.Frag} {mg : Str → Option Value} {base : Heap} (T : Tx K mg) {j : Nat} {f : Addr} {cdv : Value} {A : Around} {outer : List Env} {s : Shared} {H : Hp} {E : XK} (hr : Room j (A.deeper (envOfC "Normal.facts" (defScope s_Normal_facts) s.heap.objs.size f cdv))) :
    PSs (cxOf C0 P w K mg base ["self"] "Normal.facts" (defScope s_Normal_facts) f cdv A outer s H E).nox (defBody s_Normal_facts) (t_Normal.facts P w K mg base j) := by
  exact pss_one (ps_ret (pe_tup (pa_cons (pe_fld (pv 0) rfl) (pa_cons (pe_fld (pv 0) rfl) pa_nil))))
theorem sc_record_places : FnScope ["members", "found", "most", "index", "member"] ["members"] (defScope s_record_places) := ⟨rfl, rfl, rfl, by decide +kernel, rfl, by decide +kernel, by decide +kernel⟩
theorem b_record_places (kV doc pm : Value) (an : Option Addr) (cdv ct : Value) (us : List Value) (hl : us.length = 1) : bindArgs (PySem.W.fnOf "record_places" "record_places" (defArgs s_record_places) (defBody s_record_places) (defScope s_record_places) .none kV doc pm an cdv ct) ⟨us, []⟩ = pure ((["members"] : List Str).zip us) := match us, hl with | [_], _ => rfl
def t_record_places (P : Program) (w : World) (K : PySem.W.Frag) (mg : Str → Option Value) (base : Heap) (j : Nat) : TS := tSeq (tPar 1 2 (tCons (tLst tNil) (tCons (tC (.int 1)) tNil))) (tSeq (tFor (iEnumX K (tCons (tVar 0) tNil)) (gTup K 2 (gCons (gName 3) (gCons (gName 4) gNil))) (tIfS (tAnd (tNot (tTruV K (tCB (rIsi K) (tCons (tVar 4) (tCons (tC (.ref (He.ga K "Delay"))) tNil))))) (tTest (tOp (rI0 fun i j => .bl (decide (j < i))) (tFld K (tVar 4) "q") (tVar 2)))) (tSeq (tDrop (tBM K "list" rAppend (tVar 1) (tCons (tVar 3) tNil))) (tAsg (tFld K (tVar 4) "q") (gName 2))) tNext)) (tRet (tVar 1)))
theorem d_record_places {P : Program} {w : World} {K : PySem.W.Frag} {mg : Str → Option Value} {base : Heap} (T : Tx K mg) {j : Nat} {f : Addr} {cdv : Value} {A : Around} {outer : List Env} {s : Shared} {H : Hp} {E : XK} (hr : Room j (A.deeper (envOfC "record_places" (defScope s_record_places) s.heap.objs.size f cdv))) :
    PSs (cxOf C0 P w K mg base ["members", "found", "most", "index", "member"] "record_places" (defScope s_record_places) f cdv A outer s H E).nox (defBody s_record_places) (t_record_places P w K mg base j) := by
  exact pss_cons (ps_par (by rfl) sc_record_places.nd rfl rfl (by decide) rfl rfl (pa_cons (pe_lst pa_nil) (pa_cons pe_int pa_nil)) (by rfl)) (pss_cons (ps_for PassesOwn.never rfl (pi_enumX (by rfl) T.free_enumerate (pa_cons (pv 0) pa_nil)) (pg_tup rfl (pgs_cons (pg_name (i := 3) sc_record_places.nd rfl (Or.inl rfl)) (pgs_cons (pg_name (i := 4) sc_record_places.nd rfl (Or.inl rfl)) pgs_nil))) (pss_one (ps_if (PW.pt (pw_and (pt_not (pt_truth (pe_callB call_isi (by rfl) T.free_isinstance PyProof.Rows.boot_isinstance (pa_cons (pv 4) (pa_cons (C8.pe_gc (by rfl) T.gl_Delay) pa_nil))) (by intro _; rfl))) (pw_and1 (pt_cmpR op_gt (pe_fld (pv 4) rfl) (pv 2) (by rfl))))) (pss_cons (ps_expr (pe_bm PySem.F.plainAttrs_list PySem.F.slot_list_append PySem.F.type_list_append mt_append (pv 1) (pa_cons (pv 3) pa_nil))) (pss_one (ps_set (i := 2) sc_record_places.nd rfl (Or.inl rfl) (pe_fld (pv 4) rfl)))) pss_nil))) (pss_one (ps_ret (pv 1))))
theorem sc_records_in : FnScope ["members", "index"] ["members"] (defScope s_records_in) := ⟨rfl, rfl, rfl, by decide +kernel, rfl, by decide +kernel, by decide +kernel⟩
theorem b_records_in (kV doc pm : Value) (an : Option Addr) (cdv ct : Value) (us : List Value) (hl : us.length = 1) : bindArgs (PySem.W.fnOf "records_in" "records_in" (defArgs s_records_in) (defBody s_records_in) (defScope s_records_in) .none kV doc pm an cdv ct) ⟨us, []⟩ = pure ((["members"] : List Str).zip us) := match us, hl with | [_], _ => rfl
def t_records_in (P : Program) (w : World) (K : PySem.W.Frag) (mg : Str → Option Value) (base : Heap) (j : Nat) : TS := tRet (tThen (tLc (iSeq K (tCallX P w K mg base j "record_places" (tCons (tVar 0) tNil))) (gName 1) tYes (tTup (tCons (tMethX P w K mg base j "class_name" (tOp (rIx K) (tVar 0) (tVar 1)) tNil) (tCons (tFld K (tOp (rIx K) (tVar 0) (tVar 1)) "q") tNil))) [1]) (kTup K))
theorem d_records_in {P : Program} {w : World} {K : PySem.W.Frag} {mg : Str → Option Value} {base : Heap} (T : Tx K mg) {j : Nat} {f : Addr} {cdv : Value} {A : Around} {outer : List Env} {s : Shared} {H : Hp} {E : XK} (hr : Room j (A.deeper (envOfC "records_in" (defScope s_records_in) s.heap.objs.size f cdv))) :
    PSs (cxOf C0 P w K mg base ["members", "index"] "records_in" (defScope s_records_in) f cdv A outer s H E).nox (defBody s_records_in) (t_records_in P w K mg base j) := by
  exact pss_one (ps_ret (pe_tupleOf (by rfl) T.free_tuple (pe_lc (own := [("index", 1)]) rfl sc_records_in.nd (pi_seq (pe_cx hr (by rfl) (pa_cons (pv 0) pa_nil) (hm := T.hm_record_places))) (blkOk_by (N := ["members", "index"]) (sc := defScope s_records_in) (by decide +kernel)) (fun _ _ _ _ _ => pg_name (i := 1) sc_records_in.nd rfl (Or.inl rfl)) (fun _ _ _ _ _ => pts_nil) (fun _ _ _ _ _ => pe_tup (pa_cons (pe_mx0 hr (pe_ix ix_seq (pv 0) (pv 1) (fun _ _ => rfl))) (pa_cons (pe_fld (pe_ix ix_seq (pv 0) (pv 1) (fun _ _ => rfl)) rfl) pa_nil))))))
theorem sc_records_of : FnScope ["row"] ["row"] (defScope s_records_of) := ⟨rfl, rfl, rfl, by decide +kernel, rfl, by decide +kernel, by decide +kernel⟩
theorem b_records_of (kV doc pm : Value) (an : Option Addr) (cdv ct : Value) (us : List Value) (hl : us.length = 1) : bindArgs (PySem.W.fnOf "records_of" "records_of" (defArgs s_records_of) (defBody s_records_of) (defScope s_records_of) .none kV doc pm an cdv ct) ⟨us, []⟩ = pure ((["row"] : List Str).zip us) := match us, hl with | [_], _ => rfl
def t_records_of (P : Program) (w : World) (K : PySem.W.Frag) (mg : Str → Option Value) (base : Heap) (j : Nat) : TS := tRet (tCallX P w K mg base j "records_in" (tCons (tFld K (tVar 0) "members") tNil))
theorem d_records_of {P : Program} {w : World} {K : PySem.W.Frag} {mg : Str → Option Value} {base : Heap} (T : Tx K mg) {j : Nat} {f : Addr} {cdv : Value} {A : Around} {outer : List Env} {s : Shared} {H : Hp} {E : XK} (hr : Room j (A.deeper (envOfC "records_of" (defScope s_records_of) s.heap.objs.size f cdv))) :
    PSs (cxOf C0 P w K mg base ["row"] "records_of" (defScope s_records_of) f cdv A outer s H E).nox (defBody s_records_of) (t_records_of P w K mg base j) := by
  exact pss_one (ps_ret (pe_cx hr (by rfl) (pa_cons (pe_fld (pv 0) rfl) pa_nil) (hm := T.hm_records_in)))
theorem sc_normal_form : FnScope ["row"] ["row"] (defScope s_normal_form) := ⟨rfl, rfl, rfl, by decide +kernel, rfl, by decide +kernel, by decide +kernel⟩
theorem b_normal_form (kV doc pm : Value) (an : Option Addr) (cdv ct : Value) (us : List Value) (hl : us.length = 1) : bindArgs (PySem.W.fnOf "normal_form" "normal_form" (defArgs s_normal_form) (defBody s_normal_form) (defScope s_normal_form) .none kV doc pm an cdv ct) ⟨us, []⟩ = pure ((["row"] : List Str).zip us) := match us, hl with | [_], _ => rfl
def t_normal_form (P : Program) (w : World) (K : PySem.W.Frag) (mg : Str → Option Value) (base : Heap) (j : Nat) : TS := tRet (tMakeX P w K mg base j "Normal" (tCons (tCallX P w K mg base j "records_of" (tCons (tVar 0) tNil)) (tCons (tMethX P w K mg base j "delays" (tVar 0) tNil) tNil)))
theorem d_normal_form {P : Program} {w : World} {K : PySem.W.Frag} {mg : Str → Option Value} {base : Heap} (T : Tx K mg) {j : Nat} {f : Addr} {cdv : Value} {A : Around} {outer : List Env} {s : Shared} {H : Hp} {E : XK} (hr : Room j (A.deeper (envOfC "normal_form" (defScope s_normal_form) s.heap.objs.size f cdv))) :
    PSs (cxOf C0 P w K mg base ["row"] "normal_form" (defScope s_normal_form) f cdv A outer s H E).nox (defBody s_normal_form) (t_normal_form P w K mg base j) := by
  exact pss_one (ps_ret (pe_kx hr (by rfl) (pa_cons (pe_cx hr (by rfl) (pa_cons (pv 0) pa_nil) (hm := T.hm_records_of)) (pa_cons (pe_mx0 hr (pv 0)) pa_nil)) (hm := T.hm_Normal)))
theorem sc_member_of : FnScope ["kind", "quiet"] ["kind", "quiet"] (defScope s_member_of) := ⟨rfl, rfl, rfl, by decide +kernel, rfl, by decide +kernel, by decide +kernel⟩
theorem b_member_of (kV doc pm : Value) (an : Option Addr) (cdv ct : Value) (us : List Value) (hl : us.length = 2) : bindArgs (PySem.W.fnOf "member_of" "member_of" (defArgs s_member_of) (defBody s_member_of) (defScope s_member_of) .none kV doc pm an cdv ct) ⟨us, []⟩ = pure ((["kind", "quiet"] : List Str).zip us) := match us, hl with | [_, _], _ => rfl
def t_member_of (P : Program) (w : World) (K : PySem.W.Frag) (mg : Str → Option Value) (base : Heap) (j : Nat) : TS := tSeq (tIfS (tTest (tOp (rEqX K) (tVar 0) (tC (.str "last")))) (tRet (tMakeX P w K mg base j "Last" (tCons (tVar 1) tNil))) tNext) (tRet (tIf (tTest (tOp (rEqX K) (tVar 0) (tC (.str "first")))) (tMakeX P w K mg base j "First" (tCons (tVar 1) tNil)) (tMakeX P w K mg base j "Limit" (tCons (tVar 1) tNil))))
theorem d_member_of {P : Program} {w : World} {K : PySem.W.Frag} {mg : Str → Option Value} {base : Heap} (T : Tx K mg) {j : Nat} {f : Addr} {cdv : Value} {A : Around} {outer : List Env} {s : Shared} {H : Hp} {E : XK} (hr : Room j (A.deeper (envOfC "member_of" (defScope s_member_of) s.heap.objs.size f cdv))) :
    PSs (cxOf C0 P w K mg base ["kind", "quiet"] "member_of" (defScope s_member_of) f cdv A outer s H E).nox (defBody s_member_of) (t_member_of P w K mg base j) := by
  exact pss_cons (ps_if (pt_cmpR (op_eqX hr.units) (pv 0) (C8.pe_gc (by rfl) T.str_LAST) (by rfl)) (pss_one (ps_ret (pe_kx hr (by rfl) (pa_cons (pv 1) pa_nil) (hm := T.hm_Last)))) pss_nil) (pss_one (ps_ret (pe_ifExp (pt_cmpR (op_eqX hr.units) (pv 0) (C8.pe_gc (by rfl) T.str_FIRST) (by rfl)) (pe_kx hr (by rfl) (pa_cons (pv 1) pa_nil) (hm := T.hm_First)) (pe_kx hr (by rfl) (pa_cons (pv 1) pa_nil) (hm := T.hm_Limit)))))
theorem sc_idle_members : FnScope ["row", "places", "index"] ["row"] (defScope s_idle_members) := ⟨rfl, rfl, rfl, by decide +kernel, rfl, by decide +kernel, by decide +kernel⟩
theorem b_idle_members (kV doc pm : Value) (an : Option Addr) (cdv ct : Value) (us : List Value) (hl : us.length = 1) : bindArgs (PySem.W.fnOf "idle_members" "idle_members" (defArgs s_idle_members) (defBody s_idle_members) (defScope s_idle_members) .none kV doc pm an cdv ct) ⟨us, []⟩ = pure ((["row"] : List Str).zip us) := match us, hl with | [_], _ => rfl
def t_idle_members (P : Program) (w : World) (K : PySem.W.Frag) (mg : Str → Option Value) (base : Heap) (j : Nat) : TS := tSeq (tAsg (tCallX P w K mg base j "record_places" (tCons (tFld K (tVar 0) "members") tNil)) (gName 1)) (tRet (tLc (iRng1 (tCons (tCB (rLenA K) (tCons (tFld K (tVar 0) "members") tNil)) tNil)) (gName 2) (tTest (tOp (rNotInX K) (tVar 2) (tVar 1))) (tVar 2) [2]))
theorem d_idle_members {P : Program} {w : World} {K : PySem.W.Frag} {mg : Str → Option Value} {base : Heap} (T : Tx K mg) {j : Nat} {f : Addr} {cdv : Value} {A : Around} {outer : List Env} {s : Shared} {H : Hp} {E : XK} (hr : Room j (A.deeper (envOfC "idle_members" (defScope s_idle_members) s.heap.objs.size f cdv))) :
    PSs (cxOf C0 P w K mg base ["row", "places", "index"] "idle_members" (defScope s_idle_members) f cdv A outer s H E).nox (defBody s_idle_members) (t_idle_members P w K mg base j) := by
  exact pss_cons (ps_set (i := 1) sc_idle_members.nd rfl (Or.inr rfl) (pe_cx hr (by rfl) (pa_cons (pe_fld (pv 0) rfl) pa_nil) (hm := T.hm_record_places))) (pss_one (ps_ret (pe_lc (own := [("index", 2)]) rfl sc_idle_members.nd (pi_range1 (by rfl) T.free_range (pa_cons (pe_callB call_len_seq (by rfl) T.free_len PySem.boot_len (pa_cons (pe_fld (pv 0) rfl) pa_nil)) pa_nil)) (blkOk_by (N := ["row", "places", "index"]) (sc := defScope s_idle_members) (by decide +kernel)) (fun _ _ _ _ _ => pg_name (i := 2) sc_idle_members.nd rfl (Or.inl rfl)) (fun _ _ _ _ _ => pts_one (pt_cmpR (op_notInX (room65 hr)) (pv 2) (pv 1) (by rfl))) (fun _ _ _ _ _ => pv 2))))
theorem sc_rounded_up : FnScope ["number", "part"] ["number", "part"] (defScope s_rounded_up) := ⟨rfl, rfl, rfl, by decide +kernel, rfl, by decide +kernel, by decide +kernel⟩
theorem b_rounded_up (kV doc pm : Value) (an : Option Addr) (cdv ct : Value) (us : List Value) (hl : us.length = 2) : bindArgs (PySem.W.fnOf "rounded_up" "rounded_up" (defArgs s_rounded_up) (defBody s_rounded_up) (defScope s_rounded_up) .none kV doc pm an cdv ct) ⟨us, []⟩ = pure ((["number", "part"] : List Str).zip us) := match us, hl with | [_, _], _ => rfl
def t_rounded_up (P : Program) (w : World) (K : PySem.W.Frag) (mg : Str → Option Value) (base : Heap) (j : Nat) : TS := tRet (tUn (rU fun i => .int (-i)) (tOp (rI CDivW fun i j => .int (i / j)) (tUn (rU fun i => .int (-i)) (tVar 0)) (tVar 1)))
theorem d_rounded_up {P : Program} {w : World} {K : PySem.W.Frag} {mg : Str → Option Value} {base : Heap} (T : Tx K mg) {j : Nat} {f : Addr} {cdv : Value} {A : Around} {outer : List Env} {s : Shared} {H : Hp} {E : XK} (hr : Room j (A.deeper (envOfC "rounded_up" (defScope s_rounded_up) s.heap.objs.size f cdv))) :
    PSs (cxOf C0 P w K mg base ["number", "part"] "rounded_up" (defScope s_rounded_up) f cdv A outer s H E).nox (defBody s_rounded_up) (t_rounded_up P w K mg base j) := by
  exact pss_one (ps_ret (pe_un un_neg (pe_op op_fdivW (pe_un un_neg (pv 0)) (pv 1))))
theorem sc_greatest_quiet : FnScope ["records", "kind", "quiet"] ["records"] (defScope s_greatest_quiet) := ⟨rfl, rfl, rfl, by decide +kernel, rfl, by decide +kernel, by decide +kernel⟩
theorem b_greatest_quiet (kV doc pm : Value) (an : Option Addr) (cdv ct : Value) (us : List Value) (hl : us.length = 1) : bindArgs (PySem.W.fnOf "greatest_quiet" "greatest_quiet" (defArgs s_greatest_quiet) (defBody s_greatest_quiet) (defScope s_greatest_quiet) .none kV doc pm an cdv ct) ⟨us, []⟩ = pure ((["records"] : List Str).zip us) := match us, hl with | [_], _ => rfl
def t_greatest_quiet (P : Program) (w : World) (K : PySem.W.Frag) (mg : Str → Option Value) (base : Heap) (j : Nat) : TS := tRet (tCB (rMax K) (tCons (tOp (rAddX K) (tLst (tCons (tC (.int 1)) tNil)) (tLc (iSeq K (tVar 0)) (gTup K 2 (gCons (gName 1) (gCons (gName 2) gNil))) tYes (tVar 2) [1, 2])) tNil))
theorem d_greatest_quiet {P : Program} {w : World} {K : PySem.W.Frag} {mg : Str → Option Value} {base : Heap} (T : Tx K mg) {j : Nat} {f : Addr} {cdv : Value} {A : Around} {outer : List Env} {s : Shared} {H : Hp} {E : XK} (hr : Room j (A.deeper (envOfC "greatest_quiet" (defScope s_greatest_quiet) s.heap.objs.size f cdv))) :
    PSs (cxOf C0 P w K mg base ["records", "kind", "quiet"] "greatest_quiet" (defScope s_greatest_quiet) f cdv A outer s H E).nox (defBody s_greatest_quiet) (t_greatest_quiet P w K mg base j) := by
  exact pss_one (ps_ret (pe_callB (cr_max rfl) (by rfl) T.free_max PyProof.Rows.boot_max (pa_cons (pe_op op_addX (pe_lst (pa_cons pe_int pa_nil)) (pe_lc (own := [("kind", 1), ("quiet", 2)]) rfl sc_greatest_quiet.nd (pi_seq (pv 0)) (blkOk_by (N := ["records", "kind", "quiet"]) (sc := defScope s_greatest_quiet) (by decide +kernel)) (fun _ _ _ _ _ => pg_tup rfl (pgs_cons (pg_name (i := 1) sc_greatest_quiet.nd rfl (Or.inl rfl)) (pgs_cons (pg_name (i := 2) sc_greatest_quiet.nd rfl (Or.inl rfl)) pgs_nil))) (fun _ _ _ _ _ => pts_nil) (fun _ _ _ _ _ => pv 2))) pa_nil)))
theorem sc_pair_fate : FnScope ["records", "gap", "kind", "quiet"] ["records", "gap"] (defScope s_pair_fate) := ⟨rfl, rfl, rfl, by decide +kernel, rfl, by decide +kernel, by decide +kernel⟩
theorem b_pair_fate (kV doc pm : Value) (an : Option Addr) (cdv ct : Value) (us : List Value) (hl : us.length = 2) : bindArgs (PySem.W.fnOf "pair_fate" "pair_fate" (defArgs s_pair_fate) (defBody s_pair_fate) (defScope s_pair_fate) .none kV doc pm an cdv ct) ⟨us, []⟩ = pure ((["records", "gap"] : List Str).zip us) := match us, hl with | [_, _], _ => rfl
def t_pair_fate (P : Program) (w : World) (K : PySem.W.Frag) (mg : Str → Option Value) (base : Heap) (j : Nat) : TS := tSeq (tFor (iSeq K (tVar 0)) (gTup K 2 (gCons (gName 2) (gCons (gName 3) gNil))) (tIfS (tTest (tOp (rI0 fun i j => .bl (decide (j < i))) (tVar 3) (tVar 1))) (tRet (tCB rInt1 (tCons (tOp (rEqX K) (tVar 2) (tC (.str "last"))) tNil))) tNext)) (tRet (tC (.int 2)))
theorem d_pair_fate {P : Program} {w : World} {K : PySem.W.Frag} {mg : Str → Option Value} {base : Heap} (T : Tx K mg) {j : Nat} {f : Addr} {cdv : Value} {A : Around} {outer : List Env} {s : Shared} {H : Hp} {E : XK} (hr : Room j (A.deeper (envOfC "pair_fate" (defScope s_pair_fate) s.heap.objs.size f cdv))) :
    PSs (cxOf C0 P w K mg base ["records", "gap", "kind", "quiet"] "pair_fate" (defScope s_pair_fate) f cdv A outer s H E).nox (defBody s_pair_fate) (t_pair_fate P w K mg base j) := by
  exact pss_cons (ps_for PassesOwn.never rfl (pi_seq (pv 0)) (pg_tup rfl (pgs_cons (pg_name (i := 2) sc_pair_fate.nd rfl (Or.inl rfl)) (pgs_cons (pg_name (i := 3) sc_pair_fate.nd rfl (Or.inl rfl)) pgs_nil))) (pss_one (ps_if (pt_cmpR op_gt (pv 3) (pv 1) (by rfl)) (pss_one (ps_ret (pe_callTy call_int1 (by rfl) T.free_int PyProof.Rows.boot_int (pa_cons (pe_cmpR (op_eqX hr.units) (pv 2) (C8.pe_gc (by rfl) T.str_LAST) (by rfl)) pa_nil)))) pss_nil))) (pss_one (ps_ret pe_int))
theorem sc_parting_gap : FnScope ["records", "others", "kind", "quiet"] ["records", "others"] (defScope s_parting_gap) := ⟨rfl, rfl, rfl, by decide +kernel, rfl, by decide +kernel, by decide +kernel⟩
theorem b_parting_gap (kV doc pm : Value) (an : Option Addr) (cdv ct : Value) (us : List Value) (hl : us.length = 2) : bindArgs (PySem.W.fnOf "parting_gap" "parting_gap" (defArgs s_parting_gap) (defBody s_parting_gap) (defScope s_parting_gap) .none kV doc pm an cdv ct) ⟨us, []⟩ = pure ((["records", "others"] : List Str).zip us) := match us, hl with | [_, _], _ => rfl
def t_parting_gap (P : Program) (w : World) (K : PySem.W.Frag) (mg : Str → Option Value) (base : Heap) (j : Nat) : TS := tSeq (tFor (iSeq K (tOp (rAddX K) (tVar 0) (tVar 1))) (gTup K 2 (gCons (gName 2) (gCons (gName 3) gNil))) (tIfS (tAnd (tTest (tOp (rI0 fun i j => .bl (decide (j < i))) (tVar 3) (tC (.int 1)))) (tTest (tOp (rNeX K) (tCallX P w K mg base j "pair_fate" (tCons (tVar 0) (tCons (tOp (rI0 fun i j => .int (i - j)) (tVar 3) (tC (.int 1))) tNil))) (tCallX P w K mg base j "pair_fate" (tCons (tVar 1) (tCons (tOp (rI0 fun i j => .int (i - j)) (tVar 3) (tC (.int 1))) tNil)))))) (tRet (tOp (rI0 fun i j => .int (i - j)) (tVar 3) (tC (.int 1)))) tNext)) (tRet (tC .non))
theorem d_parting_gap {P : Program} {w : World} {K : PySem.W.Frag} {mg : Str → Option Value} {base : Heap} (T : Tx K mg) {j : Nat} {f : Addr} {cdv : Value} {A : Around} {outer : List Env} {s : Shared} {H : Hp} {E : XK} (hr : Room j (A.deeper (envOfC "parting_gap" (defScope s_parting_gap) s.heap.objs.size f cdv))) :
    PSs (cxOf C0 P w K mg base ["records", "others", "kind", "quiet"] "parting_gap" (defScope s_parting_gap) f cdv A outer s H E).nox (defBody s_parting_gap) (t_parting_gap P w K mg base j) := by
  exact pss_cons (ps_for PassesOwn.never rfl (pi_seq (pe_op op_addX (pv 0) (pv 1))) (pg_tup rfl (pgs_cons (pg_name (i := 2) sc_parting_gap.nd rfl (Or.inl rfl)) (pgs_cons (pg_name (i := 3) sc_parting_gap.nd rfl (Or.inl rfl)) pgs_nil))) (pss_one (ps_if (PW.pt (pw_and (pt_cmpR op_gt (pv 3) pe_int (by rfl)) (pw_and1 (pt_cmpR (op_neX hr.units) (pe_cx hr (by rfl) (pa_cons (pv 0) (pa_cons (pe_op op_sub (pv 3) pe_int) pa_nil)) (hm := T.hm_pair_fate)) (pe_cx hr (by rfl) (pa_cons (pv 1) (pa_cons (pe_op op_sub (pv 3) pe_int) pa_nil)) (hm := T.hm_pair_fate)) (by rfl))))) (pss_one (ps_ret (pe_op op_sub (pv 3) pe_int))) pss_nil))) (pss_one (ps_ret pe_non))
theorem sc_kinds_parted : FnScope ["quiet", "far", "rounds"] ["quiet", "far"] (defScope s_kinds_parted) := ⟨rfl, rfl, rfl, by decide +kernel, rfl, by decide +kernel, by decide +kernel⟩
theorem b_kinds_parted (kV doc pm : Value) (an : Option Addr) (cdv ct : Value) (us : List Value) (hl : us.length = 2) : bindArgs (PySem.W.fnOf "kinds_parted" "kinds_parted" (defArgs s_kinds_parted) (defBody s_kinds_parted) (defScope s_kinds_parted) .none kV doc pm an cdv ct) ⟨us, []⟩ = pure ((["quiet", "far"] : List Str).zip us) := match us, hl with | [_, _], _ => rfl
def t_kinds_parted (P : Program) (w : World) (K : PySem.W.Frag) (mg : Str → Option Value) (base : Heap) (j : Nat) : TS := tSeq (tAsg (tOp rMulX (tC (.int 2)) (tCallX P w K mg base j "rounded_up" (tCons (tVar 1) (tCons (tOp (rI0 fun i j => .int (i - j)) (tVar 0) (tC (.int 1))) tNil)))) (gName 2)) (tRet (tMakeX P w K mg base j "Train" (tCons (tC (.int 0)) (tCons (tTup tNil) (tCons (tTup (tCons (tOp (rI0 fun i j => .int (i - j)) (tVar 0) (tC (.int 1))) tNil)) (tCons (tVar 2) (tCons (tTup (tCons (tOp (rI0 fun i j => .int (i - j)) (tOp rMulX (tC (.int 2)) (tVar 0)) (tC (.int 2))) tNil)) tNil)))))))
theorem d_kinds_parted {P : Program} {w : World} {K : PySem.W.Frag} {mg : Str → Option Value} {base : Heap} (T : Tx K mg) {j : Nat} {f : Addr} {cdv : Value} {A : Around} {outer : List Env} {s : Shared} {H : Hp} {E : XK} (hr : Room j (A.deeper (envOfC "kinds_parted" (defScope s_kinds_parted) s.heap.objs.size f cdv))) :
    PSs (cxOf C0 P w K mg base ["quiet", "far", "rounds"] "kinds_parted" (defScope s_kinds_parted) f cdv A outer s H E).nox (defBody s_kinds_parted) (t_kinds_parted P w K mg base j) := by
  exact pss_cons (ps_set (i := 2) sc_kinds_parted.nd rfl (Or.inl rfl) (pe_op op_mulX pe_int (pe_cx hr (by rfl) (pa_cons (pv 1) (pa_cons (pe_op op_sub (pv 0) pe_int) pa_nil)) (hm := T.hm_rounded_up)))) (pss_one (ps_ret (pe_kx hr (by rfl) (pa_cons pe_int (pa_cons (pe_tup pa_nil) (pa_cons (pe_tup (pa_cons (pe_op op_sub (pv 0) pe_int) pa_nil)) (pa_cons (pv 2) (pa_cons (pe_tup (pa_cons (pe_op op_sub (pe_op op_mulX pe_int (pv 0)) pe_int) pa_nil)) pa_nil))))) (hm := T.hm_Train))))
theorem sc_less_parted : FnScope ["record", "records", "below", "kind", "above", "step", "far", "many"] ["record", "records"] (defScope s_less_parted) := ⟨rfl, rfl, rfl, by decide +kernel, rfl, by decide +kernel, by decide +kernel⟩
theorem b_less_parted (kV doc pm : Value) (an : Option Addr) (cdv ct : Value) (us : List Value) (hl : us.length = 2) : bindArgs (PySem.W.fnOf "less_parted" "less_parted" (defArgs s_less_parted) (defBody s_less_parted) (defScope s_less_parted) .none kV doc pm an cdv ct) ⟨us, []⟩ = pure ((["record", "records"] : List Str).zip us) := match us, hl with | [_, _], _ => rfl
def t_less_parted (P : Program) (w : World) (K : PySem.W.Frag) (mg : Str → Option Value) (base : Heap) (j : Nat) : TS := tSeq (tAsg (tTup (tCons (tOp (rIx K) (tVar 0) (tC (.int 1))) (tCons (tOp (rIx K) (tVar 1) (tC (.int 0))) tNil))) (gTup K 2 (gCons (gName 2) (gCons (gTup K 2 (gCons (gName 3) (gCons (gName 4) gNil))) gNil)))) (tSeq (tPar 5 6 (tCons (tOp (rI0 fun i j => .int (i - j)) (tOp (rAddX K) (tVar 2) (tVar 4)) (tC (.int 2))) (tCons (tOp rMulX (tC (.int 8)) (tCallX P w K mg base j "greatest_quiet" (tCons (tVar 1) tNil))) tNil))) (tSeq (tIfS (tTest (tOp (rEqX K) (tVar 3) (tC (.str "last")))) (tRet (tMakeX P w K mg base j "Train" (tCons (tC (.int 0)) (tCons (tTup (tCons (tVar 5) tNil)) (tCons (tTup (tCons (tOp (rI0 fun i j => .int (i - j)) (tVar 4) (tC (.int 1))) (tCons (tOp (rI0 fun i j => .int (i - j)) (tVar 2) (tC (.int 1))) tNil))) (tCons (tCallX P w K mg base j "rounded_up" (tCons (tVar 6) (tCons (tVar 5) tNil))) (tCons (tTup tNil) tNil))))))) tNext) (tSeq (tIfS (tTest (tOp (rEqX K) (tVar 3) (tC (.str "first")))) (tRet (tMakeX P w K mg base j "Train" (tCons (tC (.int 0)) (tCons (tTup tNil) (tCons (tTup (tCons (tOp (rI0 fun i j => .int (i - j)) (tVar 2) (tC (.int 1))) (tCons (tOp (rI0 fun i j => .int (i - j)) (tVar 4) (tC (.int 1))) tNil))) (tCons (tCallX P w K mg base j "rounded_up" (tCons (tVar 6) (tCons (tVar 5) tNil))) (tCons (tTup (tCons (tVar 5) tNil)) tNil))))))) tNext) (tSeq (tIfS (tTest (tOp (rEqX K) (tOp (rIx K) (tVar 0) (tC (.int 0))) (tC (.str "limit")))) tNever tNext) (tSeq (tAsg (tCallX P w K mg base j "rounded_up" (tCons (tVar 4) (tCons (tOp (rI0 fun i j => .int (i - j)) (tVar 2) (tC (.int 1))) tNil))) (gName 7)) (tRet (tMakeX P w K mg base j "Train" (tCons (tC (.int 0)) (tCons (tTup tNil) (tCons (tTup (tCons (tOp (rI0 fun i j => .int (i - j)) (tVar 2) (tC (.int 1))) tNil)) (tCons (tOp rMulX (tVar 7) (tCallX P w K mg base j "rounded_up" (tCons (tVar 6) (tCons (tOp rMulX (tVar 7) (tOp (rI0 fun i j => .int (i - j)) (tVar 2) (tC (.int 1)))) tNil)))) (tCons (tTup (tCons (tOp rMulX (tVar 7) (tOp (rI0 fun i j => .int (i - j)) (tVar 2) (tC (.int 1)))) tNil)) tNil))))))))))))
theorem d_less_parted {P : Program} {w : World} {K : PySem.W.Frag} {mg : Str → Option Value} {base : Heap} (T : Tx K mg) {j : Nat} {f : Addr} {cdv : Value} {A : Around} {outer : List Env} {s : Shared} {H : Hp} {E : XK} (hr : Room j (A.deeper (envOfC "less_parted" (defScope s_less_parted) s.heap.objs.size f cdv))) :
    PSs (cxOf C0 P w K mg base ["record", "records", "below", "kind", "above", "step", "far", "many"] "less_parted" (defScope s_less_parted) f cdv A outer s H E).nox (defBody s_less_parted) (t_less_parted P w K mg base j) := by
  exact pss_cons (ps_asg (pe_tup (pa_cons (pe_ix ix_seq (pv 0) pe_int (fun _ _ => rfl)) (pa_cons (pe_ix ix_seq (pv 1) pe_int (fun _ _ => rfl)) pa_nil))) (pg_tup rfl (pgs_cons (pg_name (i := 2) sc_less_parted.nd rfl (Or.inl rfl)) (pgs_cons (pg_tup rfl (pgs_cons (pg_name (i := 3) sc_less_parted.nd rfl (Or.inl rfl)) (pgs_cons (pg_name (i := 4) sc_less_parted.nd rfl (Or.inl rfl)) pgs_nil))) pgs_nil)))) (pss_cons (ps_par (by rfl) sc_less_parted.nd rfl rfl (by decide) rfl rfl (pa_cons (pe_op op_sub (pe_op op_addX (pv 2) (pv 4)) pe_int) (pa_cons (pe_op op_mulX (C8.pe_gc (by rfl) T.int_FAR) (pe_cx hr (by rfl) (pa_cons (pv 1) pa_nil) (hm := T.hm_greatest_quiet))) pa_nil)) (by rfl)) (pss_cons (ps_if (pt_cmpR (op_eqX hr.units) (pv 3) (C8.pe_gc (by rfl) T.str_LAST) (by rfl)) (pss_one (ps_ret (pe_kx hr (by rfl) (pa_cons pe_int (pa_cons (pe_tup (pa_cons (pv 5) pa_nil)) (pa_cons (pe_tup (pa_cons (pe_op op_sub (pv 4) pe_int) (pa_cons (pe_op op_sub (pv 2) pe_int) pa_nil))) (pa_cons (pe_cx hr (by rfl) (pa_cons (pv 6) (pa_cons (pv 5) pa_nil)) (hm := T.hm_rounded_up)) (pa_cons (pe_tup pa_nil) pa_nil))))) (hm := T.hm_Train)))) pss_nil) (pss_cons (ps_if (pt_cmpR (op_eqX hr.units) (pv 3) (C8.pe_gc (by rfl) T.str_FIRST) (by rfl)) (pss_one (ps_ret (pe_kx hr (by rfl) (pa_cons pe_int (pa_cons (pe_tup pa_nil) (pa_cons (pe_tup (pa_cons (pe_op op_sub (pv 2) pe_int) (pa_cons (pe_op op_sub (pv 4) pe_int) pa_nil))) (pa_cons (pe_cx hr (by rfl) (pa_cons (pv 6) (pa_cons (pv 5) pa_nil)) (hm := T.hm_rounded_up)) (pa_cons (pe_tup (pa_cons (pv 5) pa_nil)) pa_nil))))) (hm := T.hm_Train)))) pss_nil) (pss_cons (ps_if (pt_cmpR (op_eqX hr.units) (pe_ix ix_seq (pv 0) pe_int (fun _ _ => rfl)) (C8.pe_gc (by rfl) T.str_LIMIT) (by rfl)) (pss_one ps_never) pss_nil) (pss_cons (ps_set (i := 7) sc_less_parted.nd rfl (Or.inl rfl) (pe_cx hr (by rfl) (pa_cons (pv 4) (pa_cons (pe_op op_sub (pv 2) pe_int) pa_nil)) (hm := T.hm_rounded_up))) (pss_one (ps_ret (pe_kx hr (by rfl) (pa_cons pe_int (pa_cons (pe_tup pa_nil) (pa_cons (pe_tup (pa_cons (pe_op op_sub (pv 2) pe_int) pa_nil)) (pa_cons (pe_op op_mulX (pv 7) (pe_cx hr (by rfl) (pa_cons (pv 6) (pa_cons (pe_op op_mulX (pv 7) (pe_op op_sub (pv 2) pe_int)) pa_nil)) (hm := T.hm_rounded_up))) (pa_cons (pe_tup (pa_cons (pe_op op_mulX (pv 7) (pe_op op_sub (pv 2) pe_int)) pa_nil)) pa_nil))))) (hm := T.hm_Train)))))))))
theorem sc_records_parted : FnScope ["records", "others", "gap", "unlike", "quiet", "above", "kinds", "one"] ["records", "others"] (defScope s_records_parted) := ⟨rfl, rfl, rfl, by decide +kernel, rfl, by decide +kernel, by decide +kernel⟩
theorem b_records_parted (kV doc pm : Value) (an : Option Addr) (cdv ct : Value) (us : List Value) (hl : us.length = 2) : bindArgs (PySem.W.fnOf "records_parted" "records_parted" (defArgs s_records_parted) (defBody s_records_parted) (defScope s_records_parted) .none kV doc pm an cdv ct) ⟨us, []⟩ = pure ((["records", "others"] : List Str).zip us) := match us, hl with | [_, _], _ => rfl
def t_records_parted (P : Program) (w : World) (K : PySem.W.Frag) (mg : Str → Option Value) (base : Heap) (j : Nat) : TS := tSeq (tAsg (tCallX P w K mg base j "parting_gap" (tCons (tVar 0) (tCons (tVar 1) tNil))) (gName 2)) (tSeq (tIfS (tTest (tOp rNotN (tVar 2) (tC .non))) (tRet (tMakeX P w K mg base j "Train" (tCons (tC (.int 0)) (tCons (tTup (tCons (tVar 2) tNil)) (tCons (tTup tNil) (tCons (tC (.int 0)) (tCons (tTup tNil) tNil))))))) tNext) (tSeq (tAsg (tLc (iSeq K (tOp (rAddX K) (tVar 0) (tVar 1))) (gName 7) (tOr (tTest (tOp (rNotInX K) (tVar 7) (tVar 0))) (tTest (tOp (rNotInX K) (tVar 7) (tVar 1)))) (tVar 7) [7]) (gName 3)) (tSeq (tAsg (tCallX P w K mg base j "greatest_quiet" (tCons (tVar 3) tNil)) (gName 4)) (tSeq (tAsg (tThen (tLc (iSeq K (tVar 0)) (gName 7) (tTest (tOp (rI0 fun i j => .bl (decide (j < i))) (tOp (rIx K) (tVar 7) (tC (.int 1))) (tVar 4))) (tVar 7) [7]) (kTup K)) (gName 5)) (tSeq (tAsg (tLc (iSeq K (tVar 3)) (gName 7) (tTest (tOp (rEqX K) (tOp (rIx K) (tVar 7) (tC (.int 1))) (tVar 4))) (tVar 7) [7]) (gName 6)) (tSeq (tIfS (tTest (tOp (rI0 fun i j => .bl (decide (j < i))) (tCB (rLenA K) (tCons (tVar 6) tNil)) (tC (.int 1)))) (tRet (tCallX P w K mg base j "kinds_parted" (tCons (tVar 4) (tCons (tOp rMulX (tC (.int 8)) (tCallX P w K mg base j "greatest_quiet" (tCons (tVar 0) tNil))) tNil)))) tNext) (tRet (tCallX P w K mg base j "less_parted" (tCons (tOp (rIx K) (tVar 6) (tC (.int 0))) (tCons (tVar 5) tNil))))))))))
theorem d_records_parted {P : Program} {w : World} {K : PySem.W.Frag} {mg : Str → Option Value} {base : Heap} (T : Tx K mg) {j : Nat} {f : Addr} {cdv : Value} {A : Around} {outer : List Env} {s : Shared} {H : Hp} {E : XK} (hr : Room j (A.deeper (envOfC "records_parted" (defScope s_records_parted) s.heap.objs.size f cdv))) :
    PSs (cxOf C0 P w K mg base ["records", "others", "gap", "unlike", "quiet", "above", "kinds", "one"] "records_parted" (defScope s_records_parted) f cdv A outer s H E).nox (defBody s_records_parted) (t_records_parted P w K mg base j) := by
  exact pss_cons (ps_set (i := 2) sc_records_parted.nd rfl (Or.inl rfl) (pe_cx hr (by rfl) (pa_cons (pv 0) (pa_cons (pv 1) pa_nil)) (hm := T.hm_parting_gap))) (pss_cons (ps_if (pt_cmpR op_notN1 (pv 2) pe_non (by rfl)) (pss_one (ps_ret (pe_kx hr (by rfl) (pa_cons pe_int (pa_cons (pe_tup (pa_cons (pv 2) pa_nil)) (pa_cons (pe_tup pa_nil) (pa_cons pe_int (pa_cons (pe_tup pa_nil) pa_nil))))) (hm := T.hm_Train)))) pss_nil) (pss_cons (ps_setLc (i := 3) (own := [("one", 7)]) rfl sc_records_parted.nd rfl rfl (sw_true rfl rfl rfl (by decide +kernel)) (pi_seq (pe_op op_addX (pv 0) (pv 1))) (blkOk_by (N := ["records", "others", "gap", "unlike", "quiet", "above", "kinds", "one"]) (sc := defScope s_records_parted) (by decide +kernel)) (fun _ _ _ _ _ => pg_name (i := 7) sc_records_parted.nd rfl (Or.inl rfl)) (fun _ _ _ _ _ => pts_one (PW.pt (pw_or (pt_cmpR (op_notInX (room65 hr)) (pv 7) (pv 0) (by rfl)) (pw_or1 (pt_cmpR (op_notInX (room65 hr)) (pv 7) (pv 1) (by rfl)))))) (fun _ _ _ _ _ => pv 7)) (pss_cons (ps_set (i := 4) sc_records_parted.nd rfl (Or.inr rfl) (pe_cx hr (by rfl) (pa_cons (pv 3) pa_nil) (hm := T.hm_greatest_quiet))) (pss_cons (ps_set (i := 5) sc_records_parted.nd rfl (Or.inl rfl) (pe_tupleOf (by rfl) T.free_tuple (pe_lc (own := [("one", 7)]) rfl sc_records_parted.nd (pi_seq (pv 0)) (blkOk_by (N := ["records", "others", "gap", "unlike", "quiet", "above", "kinds", "one"]) (sc := defScope s_records_parted) (by decide +kernel)) (fun _ _ _ _ _ => pg_name (i := 7) sc_records_parted.nd rfl (Or.inl rfl)) (fun _ _ _ _ _ => pts_one (pt_cmpR op_gt (pe_ix ix_seq (pv 7) pe_int (fun _ _ => rfl)) (pv 4) (by rfl))) (fun _ _ _ _ _ => pv 7)))) (pss_cons (ps_setLc (i := 6) (own := [("one", 7)]) rfl sc_records_parted.nd rfl rfl (sw_true rfl rfl rfl (by decide +kernel)) (pi_seq (pv 3)) (blkOk_by (N := ["records", "others", "gap", "unlike", "quiet", "above", "kinds", "one"]) (sc := defScope s_records_parted) (by decide +kernel)) (fun _ _ _ _ _ => pg_name (i := 7) sc_records_parted.nd rfl (Or.inl rfl)) (fun _ _ _ _ _ => pts_one (pt_cmpR (op_eqX hr.units) (pe_ix ix_seq (pv 7) pe_int (fun _ _ => rfl)) (pv 4) (by rfl))) (fun _ _ _ _ _ => pv 7)) (pss_cons (ps_if (pt_cmpR op_gt (pe_callB call_len_seq (by rfl) T.free_len PySem.boot_len (pa_cons (pv 6) pa_nil)) pe_int (by rfl)) (pss_one (ps_ret (pe_cx hr (by rfl) (pa_cons (pv 4) (pa_cons (pe_op op_mulX (C8.pe_gc (by rfl) T.int_FAR) (pe_cx hr (by rfl) (pa_cons (pv 0) pa_nil) (hm := T.hm_greatest_quiet))) pa_nil)) (hm := T.hm_kinds_parted)))) pss_nil) (pss_one (ps_ret (pe_cx hr (by rfl) (pa_cons (pe_ix ix_seq (pv 6) pe_int (fun _ _ => rfl)) (pa_cons (pv 5) pa_nil)) (hm := T.hm_less_parted))))))))))
theorem sc_parting : FnScope ["row", "other", "records", "others"] ["row", "other"] (defScope s_parting) := ⟨rfl, rfl, rfl, by decide +kernel, rfl, by decide +kernel, by decide +kernel⟩
theorem b_parting (kV doc pm : Value) (an : Option Addr) (cdv ct : Value) (us : List Value) (hl : us.length = 2) : bindArgs (PySem.W.fnOf "parting" "parting" (defArgs s_parting) (defBody s_parting) (defScope s_parting) .none kV doc pm an cdv ct) ⟨us, []⟩ = pure ((["row", "other"] : List Str).zip us) := match us, hl with | [_, _], _ => rfl
def t_parting (P : Program) (w : World) (K : PySem.W.Frag) (mg : Str → Option Value) (base : Heap) (j : Nat) : TS := tSeq (tIfS (tTest (tOp (rNeX K) (tMethX P w K mg base j "delays" (tVar 0) tNil) (tMethX P w K mg base j "delays" (tVar 1) tNil))) (tRet (tMakeX P w K mg base j "Train" (tCons (tC (.int 0)) (tCons (tTup tNil) (tCons (tTup tNil) (tCons (tC (.int 0)) (tCons (tTup tNil) tNil))))))) tNext) (tSeq (tPar 2 3 (tCons (tCallX P w K mg base j "records_of" (tCons (tVar 0) tNil)) (tCons (tCallX P w K mg base j "records_of" (tCons (tVar 1) tNil)) tNil))) (tRet (tIf (tTest (tOp (rEqX K) (tVar 2) (tVar 3))) (tC .non) (tCallX P w K mg base j "records_parted" (tCons (tVar 2) (tCons (tVar 3) tNil))))))
theorem d_parting {P : Program} {w : World} {K : PySem.W.Frag} {mg : Str → Option Value} {base : Heap} (T : Tx K mg) {j : Nat} {f : Addr} {cdv : Value} {A : Around} {outer : List Env} {s : Shared} {H : Hp} {E : XK} (hr : Room j (A.deeper (envOfC "parting" (defScope s_parting) s.heap.objs.size f cdv))) :
    PSs (cxOf C0 P w K mg base ["row", "other", "records", "others"] "parting" (defScope s_parting) f cdv A outer s H E).nox (defBody s_parting) (t_parting P w K mg base j) := by
  exact pss_cons (ps_if (pt_cmpR (op_neX hr.units) (pe_mx0 hr (pv 0)) (pe_mx0 hr (pv 1)) (by rfl)) (pss_one (ps_ret (pe_kx hr (by rfl) (pa_cons pe_int (pa_cons (pe_tup pa_nil) (pa_cons (pe_tup pa_nil) (pa_cons pe_int (pa_cons (pe_tup pa_nil) pa_nil))))) (hm := T.hm_Train)))) pss_nil) (pss_cons (ps_par (by rfl) sc_parting.nd rfl rfl (by decide) rfl rfl (pa_cons (pe_cx hr (by rfl) (pa_cons (pv 0) pa_nil) (hm := T.hm_records_of)) (pa_cons (pe_cx hr (by rfl) (pa_cons (pv 1) pa_nil) (hm := T.hm_records_of)) pa_nil)) (by rfl)) (pss_one (ps_ret (pe_ifExp (pt_cmpR (op_eqX hr.units) (pv 2) (pv 3) (by rfl)) pe_non (pe_cx hr (by rfl) (pa_cons (pv 2) (pa_cons (pv 3) pa_nil)) (hm := T.hm_records_parted))))))
theorem sc_Last.class_name : FnScope ["self"] ["self"] (defScope s_Last_class_name) := ⟨rfl, rfl, rfl, by decide +kernel, rfl, by decide +kernel, by decide +kernel⟩
theorem b_Last.class_name (kV doc pm : Value) (an : Option Addr) (cdv ct : Value) (us : List Value) (hl : us.length = 1) : bindArgs (PySem.W.fnOf "class_name" "Last.class_name" (defArgs s_Last_class_name) (defBody s_Last_class_name) (defScope s_Last_class_name) .none kV doc pm an cdv ct) ⟨us, []⟩ = pure ((["self"] : List Str).zip us) := match us, hl with | [_], _ => rfl
def t_Last.class_name (P : Program) (w : World) (K : PySem.W.Frag) (mg : Str → Option Value) (base : Heap) (j : Nat) : TS := tRet (tC (.str "last"))
theorem d_Last.class_name {P : Program} {w : World} {K : PySem.W.Frag} {mg : Str → Option Value} {base : Heap} (T : Tx K mg) {j : Nat} {f : Addr} {cdv : Value} {A : Around} {outer : List Env} {s : Shared} {H : Hp} {E : XK} (hr : Room j (A.deeper (envOfC "Last.class_name" (defScope s_Last_class_name) s.heap.objs.size f cdv))) :
    PSs (cxOf C0 P w K mg base ["self"] "Last.class_name" (defScope s_Last_class_name) f cdv A outer s H E).nox (defBody s_Last_class_name) (t_Last.class_name P w K mg base j) := by
  exact pss_one (ps_ret pe_str)
theorem sc_Last.waits : FnScope ["self"] ["self"] (defScope s_Last_waits) := ⟨rfl, rfl, rfl, by decide +kernel, rfl, by decide +kernel, by decide +kernel⟩
theorem b_Last.waits (kV doc pm : Value) (an : Option Addr) (cdv ct : Value) (us : List Value) (hl : us.length = 1) : bindArgs (PySem.W.fnOf "waits" "Last.waits" (defArgs s_Last_waits) (defBody s_Last_waits) (defScope s_Last_waits) .none kV doc pm an cdv ct) ⟨us, []⟩ = pure ((["self"] : List Str).zip us) := match us, hl with | [_], _ => rfl
def t_Last.waits (P : Program) (w : World) (K : PySem.W.Frag) (mg : Str → Option Value) (base : Heap) (j : Nat) : TS := tRet (tFld K (tVar 0) "q")
theorem d_Last.waits {P : Program} {w : World} {K : PySem.W.Frag} {mg : Str → Option Value} {base : Heap} (T : Tx K mg) {j : Nat} {f : Addr} {cdv : Value} {A : Around} {outer : List Env} {s : Shared} {H : Hp} {E : XK} (hr : Room j (A.deeper (envOfC "Last.waits" (defScope s_Last_waits) s.heap.objs.size f cdv))) :
    PSs (cxOf C0 P w K mg base ["self"] "Last.waits" (defScope s_Last_waits) f cdv A outer s H E).nox (defBody s_Last_waits) (t_Last.waits P w K mg base j) := by
  exact pss_one (ps_ret (pe_fld (pv 0) rfl))
theorem sc_First.class_name : FnScope ["self"] ["self"] (defScope s_First_class_name) := ⟨rfl, rfl, rfl, by decide +kernel, rfl, by decide +kernel, by decide +kernel⟩
theorem b_First.class_name (kV doc pm : Value) (an : Option Addr) (cdv ct : Value) (us : List Value) (hl : us.length = 1) : bindArgs (PySem.W.fnOf "class_name" "First.class_name" (defArgs s_First_class_name) (defBody s_First_class_name) (defScope s_First_class_name) .none kV doc pm an cdv ct) ⟨us, []⟩ = pure ((["self"] : List Str).zip us) := match us, hl with | [_], _ => rfl
def t_First.class_name (P : Program) (w : World) (K : PySem.W.Frag) (mg : Str → Option Value) (base : Heap) (j : Nat) : TS := tRet (tC (.str "first"))
theorem d_First.class_name {P : Program} {w : World} {K : PySem.W.Frag} {mg : Str → Option Value} {base : Heap} (T : Tx K mg) {j : Nat} {f : Addr} {cdv : Value} {A : Around} {outer : List Env} {s : Shared} {H : Hp} {E : XK} (hr : Room j (A.deeper (envOfC "First.class_name" (defScope s_First_class_name) s.heap.objs.size f cdv))) :
    PSs (cxOf C0 P w K mg base ["self"] "First.class_name" (defScope s_First_class_name) f cdv A outer s H E).nox (defBody s_First_class_name) (t_First.class_name P w K mg base j) := by
  exact pss_one (ps_ret pe_str)
theorem sc_Member.waits : FnScope ["self"] ["self"] (defScope s_Member_waits) := ⟨rfl, rfl, rfl, by decide +kernel, rfl, by decide +kernel, by decide +kernel⟩
theorem b_Member.waits (kV doc pm : Value) (an : Option Addr) (cdv ct : Value) (us : List Value) (hl : us.length = 1) : bindArgs (PySem.W.fnOf "waits" "Member.waits" (defArgs s_Member_waits) (defBody s_Member_waits) (defScope s_Member_waits) .none kV doc pm an cdv ct) ⟨us, []⟩ = pure ((["self"] : List Str).zip us) := match us, hl with | [_], _ => rfl
def t_Member.waits (P : Program) (w : World) (K : PySem.W.Frag) (mg : Str → Option Value) (base : Heap) (j : Nat) : TS := tRet (tC (.int 0))
theorem d_Member.waits {P : Program} {w : World} {K : PySem.W.Frag} {mg : Str → Option Value} {base : Heap} (T : Tx K mg) {j : Nat} {f : Addr} {cdv : Value} {A : Around} {outer : List Env} {s : Shared} {H : Hp} {E : XK} (hr : Room j (A.deeper (envOfC "Member.waits" (defScope s_Member_waits) s.heap.objs.size f cdv))) :
    PSs (cxOf C0 P w K mg base ["self"] "Member.waits" (defScope s_Member_waits) f cdv A outer s H E).nox (defBody s_Member_waits) (t_Member.waits P w K mg base j) := by
  exact pss_one (ps_ret pe_int)
theorem sc_DelayD__initD_ : FnScope ["self", "d"] ["self", "d"] (defScope s_Delay_D_initD_) := ⟨rfl, rfl, rfl, by decide +kernel, rfl, by decide +kernel, by decide +kernel⟩
theorem b_DelayD__initD_ (kV doc pm : Value) (an : Option Addr) (cdv ct : Value) (us : List Value) (hl : us.length = 2) : bindArgs (PySem.W.fnOf "__init__" "Delay.__init__" (defArgs s_Delay_D_initD_) (defBody s_Delay_D_initD_) (defScope s_Delay_D_initD_) .none kV doc pm an cdv ct) ⟨us, []⟩ = pure ((["self", "d"] : List Str).zip us) := match us, hl with | [_, _], _ => rfl
def t_DelayD__initD_ (P : Program) (w : World) (K : PySem.W.Frag) (mg : Str → Option Value) (base : Heap) (j : Nat) : TS := tSeq (sFld K (tVar 0) (tVar 1) "d") (tIfS (tOr (tNot (tTruV K (tCallX P w K mg base j "is_number" (tCons (tVar 1) tNil)))) (tTest (tOp (rI0 fun i j => .bl (decide (i < j))) (tVar 1) (tC (.int 0))))) tNever tNext)
theorem d_DelayD__initD_ {P : Program} {w : World} {K : PySem.W.Frag} {mg : Str → Option Value} {base : Heap} (T : Tx K mg) {j : Nat} {f : Addr} {cdv : Value} {A : Around} {outer : List Env} {s : Shared} {H : Hp} {E : XK} (hr : Room j (A.deeper (envOfC "Delay.__init__" (defScope s_Delay_D_initD_) s.heap.objs.size f cdv))) :
    PSs (cxOf C0 P w K mg base ["self", "d"] "Delay.__init__" (defScope s_Delay_D_initD_) f cdv A outer s H E).nox (defBody s_Delay_D_initD_) (t_DelayD__initD_ P w K mg base j) := by
  exact pss_cons (ps_fld (pv 0) (pv 1) rfl) (pss_one (ps_if (PW.pt (pw_or (pt_not (pt_truth (pe_cx hr (by rfl) (pa_cons (pv 1) pa_nil) (hm := T.hm_is_number)) (by intro _; rfl))) (pw_or1 (pt_cmpR op_lt (pv 1) pe_int (by rfl))))) (pss_one ps_never) pss_nil))
theorem sc_Delay.waits : FnScope ["self"] ["self"] (defScope s_Delay_waits) := ⟨rfl, rfl, rfl, by decide +kernel, rfl, by decide +kernel, by decide +kernel⟩
theorem b_Delay.waits (kV doc pm : Value) (an : Option Addr) (cdv ct : Value) (us : List Value) (hl : us.length = 1) : bindArgs (PySem.W.fnOf "waits" "Delay.waits" (defArgs s_Delay_waits) (defBody s_Delay_waits) (defScope s_Delay_waits) .none kV doc pm an cdv ct) ⟨us, []⟩ = pure ((["self"] : List Str).zip us) := match us, hl with | [_], _ => rfl
def t_Delay.waits (P : Program) (w : World) (K : PySem.W.Frag) (mg : Str → Option Value) (base : Heap) (j : Nat) : TS := tRet (tFld K (tVar 0) "d")
theorem d_Delay.waits {P : Program} {w : World} {K : PySem.W.Frag} {mg : Str → Option Value} {base : Heap} (T : Tx K mg) {j : Nat} {f : Addr} {cdv : Value} {A : Around} {outer : List Env} {s : Shared} {H : Hp} {E : XK} (hr : Room j (A.deeper (envOfC "Delay.waits" (defScope s_Delay_waits) s.heap.objs.size f cdv))) :
    PSs (cxOf C0 P w K mg base ["self"] "Delay.waits" (defScope s_Delay_waits) f cdv A outer s H E).nox (defBody s_Delay_waits) (t_Delay.waits P w K mg base j) := by
  exact pss_one (ps_ret (pe_fld (pv 0) rfl))
theorem sc_ThingD__eqD_ : FnScope ["self", "other"] ["self", "other"] (defScope s_Thing_D_eqD_) := ⟨rfl, rfl, rfl, by decide +kernel, rfl, by decide +kernel, by decide +kernel⟩
theorem b_ThingD__eqD_ (kV doc pm : Value) (an : Option Addr) (cdv ct : Value) (us : List Value) (hl : us.length = 2) : bindArgs (PySem.W.fnOf "__eq__" "Thing.__eq__" (defArgs s_Thing_D_eqD_) (defBody s_Thing_D_eqD_) (defScope s_Thing_D_eqD_) .none kV doc pm an cdv ct) ⟨us, []⟩ = pure ((["self", "other"] : List Str).zip us) := match us, hl with | [_, _], _ => rfl
def t_ThingD__eqD_ (P : Program) (w : World) (K : PySem.W.Frag) (mg : Str → Option Value) (base : Heap) (j : Nat) : TS := tSeq (tIfS (tOr (tNot (tTruV K (tCB (rIsi K) (tCons (tVar 1) (tCons (tC (.ref (He.ga K "Thing"))) tNil))))) (tTest (tOp (rNeX K) (tMethX P w K mg base j "class_name" (tVar 0) tNil) (tMethX P w K mg base j "class_name" (tVar 1) tNil)))) (tRet (tC (.bl false))) tNext) (tRet (tOp (rEqX K) (tMethX P w K mg base j "facts" (tVar 0) tNil) (tMethX P w K mg base j "facts" (tVar 1) tNil)))
theorem d_ThingD__eqD_ {P : Program} {w : World} {K : PySem.W.Frag} {mg : Str → Option Value} {base : Heap} (T : Tx K mg) {j : Nat} {f : Addr} {cdv : Value} {A : Around} {outer : List Env} {s : Shared} {H : Hp} {E : XK} (hr : Room j (A.deeper (envOfC "Thing.__eq__" (defScope s_Thing_D_eqD_) s.heap.objs.size f cdv))) :
    PSs (cxOf C0 P w K mg base ["self", "other"] "Thing.__eq__" (defScope s_Thing_D_eqD_) f cdv A outer s H E).nox (defBody s_Thing_D_eqD_) (t_ThingD__eqD_ P w K mg base j) := by
  exact pss_cons (ps_if (PW.pt (pw_or (pt_not (pt_truth (pe_callB call_isi (by rfl) T.free_isinstance PyProof.Rows.boot_isinstance (pa_cons (pv 1) (pa_cons (C8.pe_gc (by rfl) T.gl_Thing) pa_nil))) (by intro _; rfl))) (pw_or1 (pt_cmpR (op_neX hr.units) (pe_mx0 hr (pv 0)) (pe_mx0 hr (pv 1)) (by rfl))))) (pss_one (ps_ret pe_bl)) pss_nil) (pss_one (ps_ret (pe_cmpR (op_eqX hr.units) (pe_mx0 hr (pv 0)) (pe_mx0 hr (pv 1)) (by rfl))))
end Qr

/-! #### Qdd -/
set_option maxHeartbeats 4000000
/-! Derivations. Printed by gen2.py. -/
namespace Qr
open PySem PySem.Spec PyProof.Rows L2

theorem sc_check_numbers : FnScope ["stream", "numbers", "place", "number"] ["stream", "numbers"] (defScope s_check_numbers) := ⟨rfl, rfl, rfl, by decide +kernel, rfl, by decide +kernel, by decide +kernel⟩
theorem b_check_numbers (kV doc pm : Value) (an : Option Addr) (cdv ct : Value) (us : List Value) (hl : us.length = 2) : bindArgs (PySem.W.fnOf "check_numbers" "check_numbers" (defArgs s_check_numbers) (defBody s_check_numbers) (defScope s_check_numbers) .none kV doc pm an cdv ct) ⟨us, []⟩ = pure ((["stream", "numbers"] : List Str).zip us) := match us, hl with | [_, _], _ => rfl
def t_check_numbers (P : Program) (w : World) (K : PySem.W.Frag) (mg : Str → Option Value) (base : Heap) (j : Nat) : TS := tSeq (tIfS (tNot (tTruV K (tCB (rIsiT K) (tCons (tVar 1) (tCons (tTup (tCons (tC (.ty "list")) (tCons (tC (.ty "tuple")) tNil))) tNil))))) tNever tNext) (tFor (iEnumX K (tCons (tVar 1) tNil)) (gTup K 2 (gCons (gName 2) (gCons (gName 3) gNil))) (tIfS (tOr (tNot (tTruV K (tCallX P w K mg base j "is_number" (tCons (tVar 3) tNil)))) (tOr (tNot (tTest (tChain (rI0 fun i j => .bl (decide (i ≤ j))) (rI0 fun i j => .bl (decide (i < j))) (tC (.int 0)) (tVar 3) (tCB (rLenA K) (tCons (tVar 0) tNil))))) (tAnd (tTest (tOp (rI0 fun i j => .bl (decide (j < i))) (tVar 2) (tC (.int 0)))) (tTest (tOp (rI0 fun i j => .bl (decide (i ≤ j))) (tVar 3) (tOp (rIx K) (tVar 1) (tOp (rI0 fun i j => .int (i - j)) (tVar 2) (tC (.int 1))))))))) tNever tNext))
theorem d_check_numbers {P : Program} {w : World} {K : PySem.W.Frag} {mg : Str → Option Value} {base : Heap} (T : Tx K mg) {j : Nat} {f : Addr} {cdv : Value} {A : Around} {outer : List Env} {s : Shared} {H : Hp} {E : XK} (hr : Room j (A.deeper (envOfC "check_numbers" (defScope s_check_numbers) s.heap.objs.size f cdv))) :
    PSs (cxOf C0 P w K mg base ["stream", "numbers", "place", "number"] "check_numbers" (defScope s_check_numbers) f cdv A outer s H E).nox (defBody s_check_numbers) (t_check_numbers P w K mg base j) := by
  exact pss_cons (ps_if (pt_not (pt_truth (pe_callB call_isiT (by rfl) T.free_isinstance PyProof.Rows.boot_isinstance (pa_cons (pv 1) (pa_cons (pe_tup (pa_cons (pe_bltn (v := .ty "list") (by rfl) T.free_list PyProof.Rows.boot_list rfl) (pa_cons (pe_bltn (v := .ty "tuple") (by rfl) T.free_tuple PyProof.Rows.boot_tuple rfl) pa_nil))) pa_nil))) (by intro _; rfl))) (pss_one ps_never) pss_nil) (pss_one (ps_for PassesOwn.never rfl (pi_enumX (by rfl) T.free_enumerate (pa_cons (pv 1) pa_nil)) (pg_tup rfl (pgs_cons (pg_name (i := 2) sc_check_numbers.nd rfl (Or.inl rfl)) (pgs_cons (pg_name (i := 3) sc_check_numbers.nd rfl (Or.inl rfl)) pgs_nil))) (pss_one (ps_if (PW.pt (pw_or (pt_not (pt_truth (pe_cx hr (by rfl) (pa_cons (pv 3) pa_nil) (hm := T.hm_is_number)) (by intro _; rfl))) (pw_or (pt_not (pt_chain op_le op_lt pe_int (pv 3) (pe_callB call_len_seq (by rfl) T.free_len PySem.boot_len (pa_cons (pv 0) pa_nil)))) (pw_or1 (PW.pt (pw_and (pt_cmpR op_gt (pv 2) pe_int (by rfl)) (pw_and1 (pt_cmpR op_le (pv 3) (pe_ix ix_seq (pv 1) (pe_op op_sub (pv 2) pe_int) (fun _ _ => rfl)) (by rfl))))))))) (pss_one ps_never) pss_nil))))
theorem sc_LeadsD__initD_ : FnScope ["self", "stream", "numbers", "most"] ["self", "stream", "numbers", "most"] (defScope s_Leads_D_initD_) := ⟨rfl, rfl, rfl, by decide +kernel, rfl, by decide +kernel, by decide +kernel⟩
theorem b_LeadsD__initD_ (kV doc pm : Value) (an : Option Addr) (cdv ct : Value) (us : List Value) (hl : us.length = 4) : bindArgs (PySem.W.fnOf "__init__" "Leads.__init__" (defArgs s_Leads_D_initD_) (defBody s_Leads_D_initD_) (defScope s_Leads_D_initD_) .none kV doc pm an cdv ct) ⟨us, []⟩ = pure ((["self", "stream", "numbers", "most"] : List Str).zip us) := match us, hl with | [_, _, _, _], _ => rfl
def t_LeadsD__initD_ (P : Program) (w : World) (K : PySem.W.Frag) (mg : Str → Option Value) (base : Heap) (j : Nat) : TS := tSeq (sFld K (tVar 0) (tVar 1) "stream") (tSeq (sFld K (tVar 0) (tThen (tVar 2) (kTup K)) "goal") (tSeq (sFld K (tVar 0) (tCallX P w K mg base j "stretches" (tCons (tVar 1) (tCons (tVar 3) tNil))) "stretches") (sFld K (tVar 0) tDNewK "fewest")))
theorem d_LeadsD__initD_ {P : Program} {w : World} {K : PySem.W.Frag} {mg : Str → Option Value} {base : Heap} (T : Tx K mg) {j : Nat} {f : Addr} {cdv : Value} {A : Around} {outer : List Env} {s : Shared} {H : Hp} {E : XK} (hr : Room j (A.deeper (envOfC "Leads.__init__" (defScope s_Leads_D_initD_) s.heap.objs.size f cdv))) :
    PSs (cxOf C0 P w K mg base ["self", "stream", "numbers", "most"] "Leads.__init__" (defScope s_Leads_D_initD_) f cdv A outer s H E).nox (defBody s_Leads_D_initD_) (t_LeadsD__initD_ P w K mg base j) := by
  exact pss_cons (ps_fld (pv 0) (pv 1) rfl) (pss_cons (ps_fld (pv 0) (pe_tupleOf (by rfl) T.free_tuple (pv 2)) rfl) (pss_cons (ps_fld (pv 0) (pe_cx hr (by rfl) (pa_cons (pv 1) (pa_cons (pv 3) pa_nil)) (hm := T.hm_stretches)) rfl) (pss_one (ps_fld (pv 0) pe_dnewK rfl))))
theorem sc_Leads.left : FnScope ["self", "numbers", "kind", "place", "kept", "number", "at"] ["self", "numbers", "kind", "place"] (defScope s_Leads_left) := ⟨rfl, rfl, rfl, by decide +kernel, rfl, by decide +kernel, by decide +kernel⟩
theorem b_Leads.left (kV doc pm : Value) (an : Option Addr) (cdv ct : Value) (us : List Value) (hl : us.length = 4) : bindArgs (PySem.W.fnOf "left" "Leads.left" (defArgs s_Leads_left) (defBody s_Leads_left) (defScope s_Leads_left) .none kV doc pm an cdv ct) ⟨us, []⟩ = pure ((["self", "numbers", "kind", "place"] : List Str).zip us) := match us, hl with | [_, _, _, _], _ => rfl
def t_Leads.left (P : Program) (w : World) (K : PySem.W.Frag) (mg : Str → Option Value) (base : Heap) (j : Nat) : TS := tSeq (tAsg (tMethX P w K mg base j "kept" (tCallX P w K mg base j "member_of" (tCons (tVar 2) (tCons (tOp (rIx K) (tOp (rIx K) (tFld K (tVar 0) "stretches") (tVar 3)) (tC (.int 0))) tNil))) (tCons (tLc (iSeq K (tVar 1)) (gName 5) tYes (tOp (rIx K) (tFld K (tVar 0) "stream") (tVar 5)) [5]) tNil)) (gName 4)) (tRet (tThen (tLc (iSeq K (tVar 4)) (gName 6) tYes (tOp (rIx K) (tVar 1) (tVar 6)) [6]) (kTup K)))
theorem d_Leads.left {P : Program} {w : World} {K : PySem.W.Frag} {mg : Str → Option Value} {base : Heap} (T : Tx K mg) {j : Nat} {f : Addr} {cdv : Value} {A : Around} {outer : List Env} {s : Shared} {H : Hp} {E : XK} (hr : Room j (A.deeper (envOfC "Leads.left" (defScope s_Leads_left) s.heap.objs.size f cdv))) :
    PSs (cxOf C0 P w K mg base ["self", "numbers", "kind", "place", "kept", "number", "at"] "Leads.left" (defScope s_Leads_left) f cdv A outer s H E).nox (defBody s_Leads_left) (t_Leads.left P w K mg base j) := by
  exact pss_cons (ps_set (i := 4) sc_Leads.left.nd rfl (Or.inl rfl) (pe_mx hr (pe_cx hr (by rfl) (pa_cons (pv 2) (pa_cons (pe_ix ix_seq (pe_ix ix_seq (pe_fld (pv 0) rfl) (pv 3) (fun _ _ => rfl)) pe_int (fun _ _ => rfl)) pa_nil)) (hm := T.hm_member_of)) (pa_cons (pe_lc (own := [("number", 5)]) rfl sc_Leads.left.nd (pi_seq (pv 1)) (blkOk_by (N := ["self", "numbers", "kind", "place", "kept", "number", "at"]) (sc := defScope s_Leads_left) (by decide +kernel)) (fun _ _ _ _ _ => pg_name (i := 5) sc_Leads.left.nd rfl (Or.inl rfl)) (fun _ _ _ _ _ => pts_nil) (fun _ _ _ _ _ => pe_ix ix_seq (pe_fld (pv 0) rfl) (pv 5) (fun _ _ => rfl))) pa_nil))) (pss_one (ps_ret (pe_tupleOf (by rfl) T.free_tuple (pe_lc (own := [("at", 6)]) rfl sc_Leads.left.nd (pi_seq (pv 4)) (blkOk_by (N := ["self", "numbers", "kind", "place", "kept", "number", "at"]) (sc := defScope s_Leads_left) (by decide +kernel)) (fun _ _ _ _ _ => pg_name (i := 6) sc_Leads.left.nd rfl (Or.inl rfl)) (fun _ _ _ _ _ => pts_nil) (fun _ _ _ _ _ => pe_ix ix_seq (pv 1) (pv 6) (fun _ _ => rfl))))))
theorem sc_Leads.is_open : FnScope ["self", "numbers", "number"] ["self", "numbers"] (defScope s_Leads_is_open) := ⟨rfl, rfl, rfl, by decide +kernel, rfl, by decide +kernel, by decide +kernel⟩
theorem b_Leads.is_open (kV doc pm : Value) (an : Option Addr) (cdv ct : Value) (us : List Value) (hl : us.length = 2) : bindArgs (PySem.W.fnOf "is_open" "Leads.is_open" (defArgs s_Leads_is_open) (defBody s_Leads_is_open) (defScope s_Leads_is_open) .none kV doc pm an cdv ct) ⟨us, []⟩ = pure ((["self", "numbers"] : List Str).zip us) := match us, hl with | [_, _], _ => rfl
def t_Leads.is_open (P : Program) (w : World) (K : PySem.W.Frag) (mg : Str → Option Value) (base : Heap) (j : Nat) : TS := tRet (tOp (rEqX K) (tLc (iSeq K (tFld K (tVar 0) "goal")) (gName 2) (tTest (tOp (rNotInX K) (tVar 2) (tVar 1))) (tVar 2) [2]) (tLst tNil))
theorem d_Leads.is_open {P : Program} {w : World} {K : PySem.W.Frag} {mg : Str → Option Value} {base : Heap} (T : Tx K mg) {j : Nat} {f : Addr} {cdv : Value} {A : Around} {outer : List Env} {s : Shared} {H : Hp} {E : XK} (hr : Room j (A.deeper (envOfC "Leads.is_open" (defScope s_Leads_is_open) s.heap.objs.size f cdv))) :
    PSs (cxOf C0 P w K mg base ["self", "numbers", "number"] "Leads.is_open" (defScope s_Leads_is_open) f cdv A outer s H E).nox (defBody s_Leads_is_open) (t_Leads.is_open P w K mg base j) := by
  exact pss_one (ps_ret (pe_cmpR (op_eqX hr.units) (pe_lc (own := [("number", 2)]) rfl sc_Leads.is_open.nd (pi_seq (pe_fld (pv 0) rfl)) (blkOk_by (N := ["self", "numbers", "number"]) (sc := defScope s_Leads_is_open) (by decide +kernel)) (fun _ _ _ _ _ => pg_name (i := 2) sc_Leads.is_open.nd rfl (Or.inl rfl)) (fun _ _ _ _ _ => pts_one (pt_cmpR (op_notInX (room65 hr)) (pv 2) (pv 1) (by rfl))) (fun _ _ _ _ _ => pv 2)) (pe_lst pa_nil) (by rfl)))
theorem sc_count_leading : FnScope ["stream", "numbers", "most"] ["stream", "numbers", "most"] (defScope s_count_leading) := ⟨rfl, rfl, rfl, by decide +kernel, rfl, by decide +kernel, by decide +kernel⟩
theorem b_count_leading (kV doc pm : Value) (an : Option Addr) (cdv ct : Value) (us : List Value) (hl : us.length = 3) : bindArgs (PySem.W.fnOf "count_leading" "count_leading" (defArgs s_count_leading) (defBody s_count_leading) (defScope s_count_leading) .none kV doc pm an cdv ct) ⟨us, []⟩ = pure ((["stream", "numbers", "most"] : List Str).zip us) := match us, hl with | [_, _, _], _ => rfl
def t_count_leading (P : Program) (w : World) (K : PySem.W.Frag) (mg : Str → Option Value) (base : Heap) (j : Nat) : TS := tSeq (tDrop (tCallX P w K mg base j "check_stream" (tCons (tVar 0) tNil))) (tSeq (tDrop (tCallX P w K mg base j "check_numbers" (tCons (tVar 0) (tCons (tVar 1) tNil)))) (tSeq (tIfS (tTest (tOp (rI0 fun i j => .bl (decide (j < i))) (tVar 2) (tC (.int 300)))) tNever tNext) (tRet (tMethX P w K mg base j "ways_to_goal" (tMakeX P w K mg base j "Leads" (tCons (tVar 0) (tCons (tVar 1) (tCons (tVar 2) tNil)))) tNil))))
theorem d_count_leading {P : Program} {w : World} {K : PySem.W.Frag} {mg : Str → Option Value} {base : Heap} (T : Tx K mg) {j : Nat} {f : Addr} {cdv : Value} {A : Around} {outer : List Env} {s : Shared} {H : Hp} {E : XK} (hr : Room j (A.deeper (envOfC "count_leading" (defScope s_count_leading) s.heap.objs.size f cdv))) :
    PSs (cxOf C0 P w K mg base ["stream", "numbers", "most"] "count_leading" (defScope s_count_leading) f cdv A outer s H E).nox (defBody s_count_leading) (t_count_leading P w K mg base j) := by
  exact pss_cons (ps_expr (pe_cx hr (by rfl) (pa_cons (pv 0) pa_nil) (hm := T.hm_check_stream))) (pss_cons (ps_expr (pe_cx hr (by rfl) (pa_cons (pv 0) (pa_cons (pv 1) pa_nil)) (hm := T.hm_check_numbers))) (pss_cons (ps_if (pt_cmpR op_gt (pv 2) (C8.pe_gc (by rfl) T.int_MOST_QUIET) (by rfl)) (pss_one ps_never) pss_nil) (pss_one (ps_ret (pe_mx0 hr (pe_kx hr (by rfl) (pa_cons (pv 0) (pa_cons (pv 1) (pa_cons (pv 2) pa_nil))) (hm := T.hm_Leads)))))))
theorem sc_can_tell : FnScope ["row", "times", "most", "kind", "quiet", "at"] ["row", "times"] (defScope s_can_tell) := ⟨rfl, rfl, rfl, by decide +kernel, rfl, by decide +kernel, by decide +kernel⟩
theorem b_can_tell (kV doc pm : Value) (an : Option Addr) (cdv ct : Value) (us : List Value) (hl : us.length = 2) : bindArgs (PySem.W.fnOf "can_tell" "can_tell" (defArgs s_can_tell) (defBody s_can_tell) (defScope s_can_tell) .none kV doc pm an cdv ct) ⟨us, []⟩ = pure ((["row", "times"] : List Str).zip us) := match us, hl with | [_, _], _ => rfl
def t_can_tell (P : Program) (w : World) (K : PySem.W.Frag) (mg : Str → Option Value) (base : Heap) (j : Nat) : TS := tSeq (tDrop (tCallX P w K mg base j "check_stream" (tCons (tVar 1) tNil))) (tSeq (tAsg (tCB (rMax K) (tCons (tOp (rAddX K) (tLst (tCons (tC (.int 1)) tNil)) (tLc (iSeq K (tCallX P w K mg base j "records_of" (tCons (tVar 0) tNil))) (gTup K 2 (gCons (gName 3) (gCons (gName 4) gNil))) tYes (tVar 4) [3, 4])) tNil)) (gName 2)) (tRet (tCB (rAll K) (tCons (tLc (iRng1 (tCons (tOp (rI0 fun i j => .int (i - j)) (tCB (rLenA K) (tCons (tVar 1) tNil)) (tC (.int 1))) tNil)) (gName 5) tYes (tOp (rI0 fun i j => .bl (decide (j ≤ i))) (tOp (rI0 fun i j => .int (i - j)) (tOp (rIx K) (tVar 1) (tOp (rAddX K) (tVar 5) (tC (.int 1)))) (tOp (rIx K) (tVar 1) (tVar 5))) (tVar 2)) [5]) tNil))))
theorem d_can_tell {P : Program} {w : World} {K : PySem.W.Frag} {mg : Str → Option Value} {base : Heap} (T : Tx K mg) {j : Nat} {f : Addr} {cdv : Value} {A : Around} {outer : List Env} {s : Shared} {H : Hp} {E : XK} (hr : Room j (A.deeper (envOfC "can_tell" (defScope s_can_tell) s.heap.objs.size f cdv))) :
    PSs (cxOf C0 P w K mg base ["row", "times", "most", "kind", "quiet", "at"] "can_tell" (defScope s_can_tell) f cdv A outer s H E).nox (defBody s_can_tell) (t_can_tell P w K mg base j) := by
  exact pss_cons (ps_expr (pe_cx hr (by rfl) (pa_cons (pv 1) pa_nil) (hm := T.hm_check_stream))) (pss_cons (ps_set (i := 2) sc_can_tell.nd rfl (Or.inr rfl) (pe_callB (cr_max rfl) (by rfl) T.free_max PyProof.Rows.boot_max (pa_cons (pe_op op_addX (pe_lst (pa_cons pe_int pa_nil)) (pe_lc (own := [("kind", 3), ("quiet", 4)]) rfl sc_can_tell.nd (pi_seq (pe_cx hr (by rfl) (pa_cons (pv 0) pa_nil) (hm := T.hm_records_of))) (blkOk_by (N := ["row", "times", "most", "kind", "quiet", "at"]) (sc := defScope s_can_tell) (by decide +kernel)) (fun _ _ _ _ _ => pg_tup rfl (pgs_cons (pg_name (i := 3) sc_can_tell.nd rfl (Or.inl rfl)) (pgs_cons (pg_name (i := 4) sc_can_tell.nd rfl (Or.inl rfl)) pgs_nil))) (fun _ _ _ _ _ => pts_nil) (fun _ _ _ _ _ => pv 4))) pa_nil))) (pss_one (ps_ret (pe_callB (cr_all rfl) (by rfl) T.free_all PyProof.Rows.boot_all (pa_cons (pe_lc (own := [("at", 5)]) rfl sc_can_tell.nd (pi_range1 (by rfl) T.free_range (pa_cons (pe_op op_sub (pe_callB call_len_seq (by rfl) T.free_len PySem.boot_len (pa_cons (pv 1) pa_nil)) pe_int) pa_nil)) (blkOk_by (N := ["row", "times", "most", "kind", "quiet", "at"]) (sc := defScope s_can_tell) (by decide +kernel)) (fun _ _ _ _ _ => pg_name (i := 5) sc_can_tell.nd rfl (Or.inl rfl)) (fun _ _ _ _ _ => pts_nil) (fun _ _ _ _ _ => pe_cmpR op_ge (pe_op op_sub (pe_ix ix_seq (pv 1) (pe_op op_addX (pv 5) pe_int) (fun _ _ => rfl)) (pe_ix ix_seq (pv 1) (pv 5) (fun _ _ => rfl))) (pv 2) (by rfl))) pa_nil)))))
theorem sc_folded : FnScope ["one", "other", "size", "whole", "part"] ["one", "other", "size"] (defScope s_folded) := ⟨rfl, rfl, rfl, by decide +kernel, rfl, by decide +kernel, by decide +kernel⟩
theorem b_folded (kV doc pm : Value) (an : Option Addr) (cdv ct : Value) (us : List Value) (hl : us.length = 3) : bindArgs (PySem.W.fnOf "folded" "folded" (defArgs s_folded) (defBody s_folded) (defScope s_folded) .none kV doc pm an cdv ct) ⟨us, []⟩ = pure ((["one", "other", "size"] : List Str).zip us) := match us, hl with | [_, _, _], _ => rfl
def t_folded (P : Program) (w : World) (K : PySem.W.Frag) (mg : Str → Option Value) (base : Heap) (j : Nat) : TS := tRet (tLc (iRng1 (tCons (tOp (rAddX K) (tVar 2) (tC (.int 1))) tNil)) (gName 3) tYes (tCB (rSum K) (tCons (tLc (iRng1 (tCons (tOp (rAddX K) (tVar 3) (tC (.int 1))) tNil)) (gName 4) tYes (tOp rMulX (tOp (rIx K) (tVar 0) (tVar 4)) (tOp (rIx K) (tVar 1) (tOp (rI0 fun i j => .int (i - j)) (tVar 3) (tVar 4)))) [4]) tNil)) [3])
theorem d_folded {P : Program} {w : World} {K : PySem.W.Frag} {mg : Str → Option Value} {base : Heap} (T : Tx K mg) {j : Nat} {f : Addr} {cdv : Value} {A : Around} {outer : List Env} {s : Shared} {H : Hp} {E : XK} (hr : Room j (A.deeper (envOfC "folded" (defScope s_folded) s.heap.objs.size f cdv))) :
    PSs (cxOf C0 P w K mg base ["one", "other", "size", "whole", "part"] "folded" (defScope s_folded) f cdv A outer s H E).nox (defBody s_folded) (t_folded P w K mg base j) := by
  exact pss_one (ps_ret (pe_lc (own := [("whole", 3)]) rfl sc_folded.nd (pi_range1 (by rfl) T.free_range (pa_cons (pe_op op_addX (pv 2) pe_int) pa_nil)) (blkOk_by (N := ["one", "other", "size", "whole", "part"]) (sc := defScope s_folded) (by decide +kernel)) (fun _ _ _ _ _ => pg_name (i := 3) sc_folded.nd rfl (Or.inr rfl)) (fun _ _ _ _ _ => pts_nil) (fun _ _ _ _ _ => pe_callB (cr_sum rfl) (by rfl) T.free_sum PyProof.Rows.boot_sum (pa_cons (pe_lc (own := [("part", 4)]) rfl sc_folded.nd (pi_range1 (by rfl) T.free_range (pa_cons (pe_op op_addX (pv 3) pe_int) pa_nil)) (blkOk_by (N := ["one", "other", "size", "whole", "part"]) (sc := { kind := .function, names := [(".0", .local), ("whole", .cell), ("sum", .globalImplicit), ("range", .globalImplicit), ("one", .cell), ("other", .cell)], isGenerator := false, isCoroutine := false, more := [] }) (by decide +kernel)) (fun _ _ _ _ _ => pg_name (i := 4) sc_folded.nd rfl (Or.inl rfl)) (fun _ _ _ _ _ => pts_nil) (fun _ _ _ _ _ => pe_op op_mulX (pe_ix ix_seq (pv 0) (pv 4) (fun _ _ => rfl)) (pe_ix ix_seq (pv 1) (pe_op op_sub (pv 3) (pv 4)) (fun _ _ => rfl)))) pa_nil))))
theorem sc_WaysD__initD_ : FnScope ["self", "size"] ["self", "size"] (defScope s_Ways_D_initD_) := ⟨rfl, rfl, rfl, by decide +kernel, rfl, by decide +kernel, by decide +kernel⟩
theorem b_WaysD__initD_ (kV doc pm : Value) (an : Option Addr) (cdv ct : Value) (us : List Value) (hl : us.length = 2) : bindArgs (PySem.W.fnOf "__init__" "Ways.__init__" (defArgs s_Ways_D_initD_) (defBody s_Ways_D_initD_) (defScope s_Ways_D_initD_) .none kV doc pm an cdv ct) ⟨us, []⟩ = pure ((["self", "size"] : List Str).zip us) := match us, hl with | [_, _], _ => rfl
def t_WaysD__initD_ (P : Program) (w : World) (K : PySem.W.Frag) (mg : Str → Option Value) (base : Heap) (j : Nat) : TS := tSeq (sFld K (tVar 0) (tVar 1) "size") (tSeq (sFld K (tVar 0) (tOp (rAddX K) (tLst (tCons (tC (.int 0)) tNil)) (tOp rMulX (tLst (tCons (tC (.int 1)) tNil)) (tVar 1))) "steps") (tSeq (sFld K (tVar 0) (tOp rMulX (tLst (tCons (tC (.int 1)) tNil)) (tOp (rAddX K) (tVar 1) (tC (.int 1)))) "heads") (sFld K (tVar 0) (tOp rMulX (tLst (tCons (tC (.int 1)) tNil)) (tOp (rAddX K) (tVar 1) (tC (.int 1)))) "tails")))
theorem d_WaysD__initD_ {P : Program} {w : World} {K : PySem.W.Frag} {mg : Str → Option Value} {base : Heap} (T : Tx K mg) {j : Nat} {f : Addr} {cdv : Value} {A : Around} {outer : List Env} {s : Shared} {H : Hp} {E : XK} (hr : Room j (A.deeper (envOfC "Ways.__init__" (defScope s_Ways_D_initD_) s.heap.objs.size f cdv))) :
    PSs (cxOf C0 P w K mg base ["self", "size"] "Ways.__init__" (defScope s_Ways_D_initD_) f cdv A outer s H E).nox (defBody s_Ways_D_initD_) (t_WaysD__initD_ P w K mg base j) := by
  exact pss_cons (ps_fld (pv 0) (pv 1) rfl) (pss_cons (ps_fld (pv 0) (pe_op op_addX (pe_lst (pa_cons pe_int pa_nil)) (pe_op op_mulX (pe_lst (pa_cons pe_int pa_nil)) (pv 1))) rfl) (pss_cons (ps_fld (pv 0) (pe_op op_mulX (pe_lst (pa_cons pe_int pa_nil)) (pe_op op_addX (pv 1) pe_int)) rfl) (pss_one (ps_fld (pv 0) (pe_op op_mulX (pe_lst (pa_cons pe_int pa_nil)) (pe_op op_addX (pv 1) pe_int)) rfl))))
theorem sc_Ways.chains : FnScope ["self", "quiet", "found", "whole", "longest", "step"] ["self", "quiet"] (defScope s_Ways_chains) := ⟨rfl, rfl, rfl, by decide +kernel, rfl, by decide +kernel, by decide +kernel⟩
theorem b_Ways.chains (kV doc pm : Value) (an : Option Addr) (cdv ct : Value) (us : List Value) (hl : us.length = 2) : bindArgs (PySem.W.fnOf "chains" "Ways.chains" (defArgs s_Ways_chains) (defBody s_Ways_chains) (defScope s_Ways_chains) .none kV doc pm an cdv ct) ⟨us, []⟩ = pure ((["self", "quiet"] : List Str).zip us) := match us, hl with | [_, _], _ => rfl
def t_Ways.chains (P : Program) (w : World) (K : PySem.W.Frag) (mg : Str → Option Value) (base : Heap) (j : Nat) : TS := tSeq (tAsg (tLst (tCons (tC (.int 1)) tNil)) (gName 2)) (tSeq (tFor (iRng2 (tCons (tC (.int 1)) (tCons (tOp (rAddX K) (tFld K (tVar 0) "size") (tC (.int 1))) tNil))) (gName 3) (tSeq (tAsg (tCB rMin2 (tCons (tVar 3) (tCons (tOp (rI0 fun i j => .int (i - j)) (tVar 1) (tC (.int 1))) tNil))) (gName 4)) (tDrop (tBM K "list" rAppend (tVar 2) (tCons (tCB (rSum K) (tCons (tLc (iRng2 (tCons (tC (.int 1)) (tCons (tOp (rAddX K) (tVar 4) (tC (.int 1))) tNil))) (gName 5) tYes (tOp rMulX (tOp (rIx K) (tFld K (tVar 0) "steps") (tVar 5)) (tOp (rIx K) (tVar 2) (tOp (rI0 fun i j => .int (i - j)) (tVar 3) (tVar 5)))) [5]) tNil)) tNil))))) (tRet (tVar 2)))
theorem d_Ways.chains {P : Program} {w : World} {K : PySem.W.Frag} {mg : Str → Option Value} {base : Heap} (T : Tx K mg) {j : Nat} {f : Addr} {cdv : Value} {A : Around} {outer : List Env} {s : Shared} {H : Hp} {E : XK} (hr : Room j (A.deeper (envOfC "Ways.chains" (defScope s_Ways_chains) s.heap.objs.size f cdv))) :
    PSs (cxOf C0 P w K mg base ["self", "quiet", "found", "whole", "longest", "step"] "Ways.chains" (defScope s_Ways_chains) f cdv A outer s H E).nox (defBody s_Ways_chains) (t_Ways.chains P w K mg base j) := by
  exact pss_cons (ps_set (i := 2) sc_Ways.chains.nd rfl (Or.inr rfl) (pe_lst (pa_cons pe_int pa_nil))) (pss_cons (ps_for PassesOwn.never rfl (pi_range2 (by rfl) T.free_range (pa_cons pe_int (pa_cons (pe_op op_addX (pe_fld (pv 0) rfl) pe_int) pa_nil))) (pg_name (i := 3) sc_Ways.chains.nd rfl (Or.inr rfl)) (pss_cons (ps_set (i := 4) sc_Ways.chains.nd rfl (Or.inl rfl) (pe_callB (call_min2 rfl) (by rfl) T.free_min PyProof.Rows.boot_min (pa_cons (pv 3) (pa_cons (pe_op op_sub (pv 1) pe_int) pa_nil)))) (pss_one (ps_expr (pe_bm PySem.F.plainAttrs_list PySem.F.slot_list_append PySem.F.type_list_append mt_append (pv 2) (pa_cons (pe_callB (cr_sum rfl) (by rfl) T.free_sum PyProof.Rows.boot_sum (pa_cons (pe_lc (own := [("step", 5)]) rfl sc_Ways.chains.nd (pi_range2 (by rfl) T.free_range (pa_cons pe_int (pa_cons (pe_op op_addX (pv 4) pe_int) pa_nil))) (blkOk_by (N := ["self", "quiet", "found", "whole", "longest", "step"]) (sc := defScope s_Ways_chains) (by decide +kernel)) (fun _ _ _ _ _ => pg_name (i := 5) sc_Ways.chains.nd rfl (Or.inl rfl)) (fun _ _ _ _ _ => pts_nil) (fun _ _ _ _ _ => pe_op op_mulX (pe_ix ix_seq (pe_fld (pv 0) rfl) (pv 5) (fun _ _ => rfl)) (pe_ix ix_seq (pv 2) (pe_op op_sub (pv 3) (pv 5)) (fun _ _ => rfl)))) pa_nil)) pa_nil)))))) (pss_one (ps_ret (pv 2))))
theorem sc_Ways.add : FnScope ["self", "kind", "quiet", "chains", "steps", "great", "whole", "many", "step"] ["self", "kind", "quiet"] (defScope s_Ways_add) := ⟨rfl, rfl, rfl, by decide +kernel, rfl, by decide +kernel, by decide +kernel⟩
theorem b_Ways.add (kV doc pm : Value) (an : Option Addr) (cdv ct : Value) (us : List Value) (hl : us.length = 3) : bindArgs (PySem.W.fnOf "add" "Ways.add" (defArgs s_Ways_add) (defBody s_Ways_add) (defScope s_Ways_add) .none kV doc pm an cdv ct) ⟨us, []⟩ = pure ((["self", "kind", "quiet"] : List Str).zip us) := match us, hl with | [_, _, _], _ => rfl
def t_Ways.add (P : Program) (w : World) (K : PySem.W.Frag) (mg : Str → Option Value) (base : Heap) (j : Nat) : TS := tSeq (tAsg (tMethX P w K mg base j "chains" (tVar 0) (tCons (tVar 2) tNil)) (gName 3)) (tSeq (tIfS (tTest (tOp (rEqX K) (tVar 1) (tC (.str "limit")))) (tSeq (tAsg (tLc (iEnumX K (tCons (tVar 3) tNil)) (gTup K 2 (gCons (gName 6) (gCons (gName 7) gNil))) tYes (tIf (tTest (tOp (rI0 fun i j => .bl (decide (i < j))) (tVar 6) (tVar 2))) (tVar 7) (tC (.int 0))) [6, 7]) (gName 3)) (tSeq (tAsg (tCallX P w K mg base j "folded" (tCons (tVar 3) (tCons (tFld K (tVar 0) "steps") (tCons (tFld K (tVar 0) "size") tNil)))) (gName 4)) (sFld K (tVar 0) (tLc (iEnumX K (tCons (tVar 4) tNil)) (gTup K 2 (gCons (gName 6) (gCons (gName 7) gNil))) tYes (tIf (tTest (tOp (rI0 fun i j => .bl (decide (j ≤ i))) (tVar 6) (tVar 2))) (tVar 7) (tC (.int 0))) [6, 7]) "steps"))) (tSeq (tAsg (tLc (iEnumX K (tCons (tFld K (tVar 0) "steps") tNil)) (gTup K 2 (gCons (gName 8) (gCons (gName 7) gNil))) tYes (tIf (tTest (tOp (rI0 fun i j => .bl (decide (j ≤ i))) (tVar 8) (tVar 2))) (tVar 7) (tC (.int 0))) [8, 7]) (gName 5)) (sFld K (tVar 0) (tCallX P w K mg base j "folded" (tCons (tVar 3) (tCons (tVar 5) (tCons (tFld K (tVar 0) "size") tNil)))) "steps"))) (tSeq (tIfS (tTest (tOp (rEqX K) (tVar 1) (tC (.str "last")))) (sFld K (tVar 0) (tCallX P w K mg base j "folded" (tCons (tVar 3) (tCons (tFld K (tVar 0) "heads") (tCons (tFld K (tVar 0) "size") tNil)))) "heads") tNext) (tIfS (tTest (tOp (rIn K false) (tVar 1) (tTup (tCons (tC (.str "first")) (tCons (tC (.str "limit")) tNil))))) (sFld K (tVar 0) (tCallX P w K mg base j "folded" (tCons (tVar 3) (tCons (tFld K (tVar 0) "tails") (tCons (tFld K (tVar 0) "size") tNil)))) "tails") tNext)))
theorem d_Ways.add {P : Program} {w : World} {K : PySem.W.Frag} {mg : Str → Option Value} {base : Heap} (T : Tx K mg) {j : Nat} {f : Addr} {cdv : Value} {A : Around} {outer : List Env} {s : Shared} {H : Hp} {E : XK} (hr : Room j (A.deeper (envOfC "Ways.add" (defScope s_Ways_add) s.heap.objs.size f cdv))) :
    PSs (cxOf C0 P w K mg base ["self", "kind", "quiet", "chains", "steps", "great", "whole", "many", "step"] "Ways.add" (defScope s_Ways_add) f cdv A outer s H E).nox (defBody s_Ways_add) (t_Ways.add P w K mg base j) := by
  exact pss_cons (ps_set (i := 3) sc_Ways.add.nd rfl (Or.inl rfl) (pe_mx hr (pv 0) (pa_cons (pv 2) pa_nil))) (pss_cons (ps_if (pt_cmpR (op_eqX hr.units) (pv 1) (C8.pe_gc (by rfl) T.str_LIMIT) (by rfl)) (pss_cons (ps_setLc (i := 3) (own := [("whole", 6), ("many", 7)]) rfl sc_Ways.add.nd rfl rfl (sw_true rfl rfl rfl (by decide +kernel)) (pi_enumX (by rfl) T.free_enumerate (pa_cons (pv 3) pa_nil)) (blkOk_by (N := ["self", "kind", "quiet", "chains", "steps", "great", "whole", "many", "step"]) (sc := defScope s_Ways_add) (by decide +kernel)) (fun _ _ _ _ _ => pg_tup rfl (pgs_cons (pg_name (i := 6) sc_Ways.add.nd rfl (Or.inl rfl)) (pgs_cons (pg_name (i := 7) sc_Ways.add.nd rfl (Or.inl rfl)) pgs_nil))) (fun _ _ _ _ _ => pts_nil) (fun _ _ _ _ _ => pe_ifExp (pt_cmpR op_lt (pv 6) (pv 2) (by rfl)) (pv 7) pe_int)) (pss_cons (ps_set (i := 4) sc_Ways.add.nd rfl (Or.inl rfl) (pe_cx hr (by rfl) (pa_cons (pv 3) (pa_cons (pe_fld (pv 0) rfl) (pa_cons (pe_fld (pv 0) rfl) pa_nil))) (hm := T.hm_folded))) (pss_one (ps_fld (pv 0) (pe_lc (own := [("whole", 6), ("many", 7)]) rfl sc_Ways.add.nd (pi_enumX (by rfl) T.free_enumerate (pa_cons (pv 4) pa_nil)) (blkOk_by (N := ["self", "kind", "quiet", "chains", "steps", "great", "whole", "many", "step"]) (sc := defScope s_Ways_add) (by decide +kernel)) (fun _ _ _ _ _ => pg_tup rfl (pgs_cons (pg_name (i := 6) sc_Ways.add.nd rfl (Or.inl rfl)) (pgs_cons (pg_name (i := 7) sc_Ways.add.nd rfl (Or.inl rfl)) pgs_nil))) (fun _ _ _ _ _ => pts_nil) (fun _ _ _ _ _ => pe_ifExp (pt_cmpR op_ge (pv 6) (pv 2) (by rfl)) (pv 7) pe_int)) rfl)))) (pss_cons (ps_setLc (i := 5) (own := [("step", 8), ("many", 7)]) rfl sc_Ways.add.nd rfl rfl (sw_true rfl rfl rfl (by decide +kernel)) (pi_enumX (by rfl) T.free_enumerate (pa_cons (pe_fld (pv 0) rfl) pa_nil)) (blkOk_by (N := ["self", "kind", "quiet", "chains", "steps", "great", "whole", "many", "step"]) (sc := defScope s_Ways_add) (by decide +kernel)) (fun _ _ _ _ _ => pg_tup rfl (pgs_cons (pg_name (i := 8) sc_Ways.add.nd rfl (Or.inl rfl)) (pgs_cons (pg_name (i := 7) sc_Ways.add.nd rfl (Or.inl rfl)) pgs_nil))) (fun _ _ _ _ _ => pts_nil) (fun _ _ _ _ _ => pe_ifExp (pt_cmpR op_ge (pv 8) (pv 2) (by rfl)) (pv 7) pe_int)) (pss_one (ps_fld (pv 0) (pe_cx hr (by rfl) (pa_cons (pv 3) (pa_cons (pv 5) (pa_cons (pe_fld (pv 0) rfl) pa_nil))) (hm := T.hm_folded)) rfl)))) (pss_cons (ps_if (pt_cmpR (op_eqX hr.units) (pv 1) (C8.pe_gc (by rfl) T.str_LAST) (by rfl)) (pss_one (ps_fld (pv 0) (pe_cx hr (by rfl) (pa_cons (pv 3) (pa_cons (pe_fld (pv 0) rfl) (pa_cons (pe_fld (pv 0) rfl) pa_nil))) (hm := T.hm_folded)) rfl)) pss_nil) (pss_one (ps_if (pt_cmpR op_in_seq (pv 1) (pe_tup (pa_cons (C8.pe_gc (by rfl) T.str_FIRST) (pa_cons (C8.pe_gc (by rfl) T.str_LIMIT) pa_nil))) (by rfl)) (pss_one (ps_fld (pv 0) (pe_cx hr (by rfl) (pa_cons (pv 3) (pa_cons (pe_fld (pv 0) rfl) (pa_cons (pe_fld (pv 0) rfl) pa_nil))) (hm := T.hm_folded)) rfl)) pss_nil))))
theorem sc_count_pasts : FnScope ["row", "times", "begin", "end", "late", "ways", "kind", "quiet", "found", "at"] ["row", "times", "begin", "end"] (defScope s_count_pasts) := ⟨rfl, rfl, rfl, by decide +kernel, rfl, by decide +kernel, by decide +kernel⟩
theorem b_count_pasts (kV doc pm : Value) (an : Option Addr) (cdv ct : Value) (us : List Value) (hl : us.length = 4) : bindArgs (PySem.W.fnOf "count_pasts" "count_pasts" (defArgs s_count_pasts) (defBody s_count_pasts) (defScope s_count_pasts) .none kV doc pm an cdv ct) ⟨us, []⟩ = pure ((["row", "times", "begin", "end"] : List Str).zip us) := match us, hl with | [_, _, _, _], _ => rfl
def t_count_pasts (P : Program) (w : World) (K : PySem.W.Frag) (mg : Str → Option Value) (base : Heap) (j : Nat) : TS := tSeq (tDrop (tCallX P w K mg base j "check_stream" (tCons (tVar 1) tNil))) (tSeq (tIfS (tTest (tOp (rI0 fun i j => .bl (decide (j < i))) (tOp (rAddX K) (tOp (rI0 fun i j => .int (i - j)) (tVar 3) (tVar 2)) (tC (.int 1))) (tC (.int 300)))) tNever tNext) (tSeq (tIfS (tTest (tOp (rEqX K) (tCB (rLenA K) (tCons (tVar 1) tNil)) (tC (.int 0)))) (tRet (tC (.int 1))) tNext) (tSeq (tAsg (tMethX P w K mg base j "delays" (tVar 0) tNil) (gName 4)) (tSeq (tIfS (tOr (tTest (tOp (rI0 fun i j => .bl (decide (i < j))) (tOp (rI0 fun i j => .int (i - j)) (tOp (rIx K) (tVar 1) (tC (.int 0))) (tVar 4)) (tVar 2))) (tTest (tOp (rI0 fun i j => .bl (decide (j < i))) (tOp (rI0 fun i j => .int (i - j)) (tOp (rIx K) (tVar 1) (tUn (rU fun i => .int (-i)) (tC (.int 1)))) (tVar 4)) (tVar 3)))) (tRet (tC (.int 0))) tNext) (tSeq (tAsg (tMakeX P w K mg base j "Ways" (tCons (tOp (rI0 fun i j => .int (i - j)) (tVar 3) (tVar 2)) tNil)) (gName 5)) (tSeq (tFor (iSeq K (tCallX P w K mg base j "records_of" (tCons (tVar 0) tNil))) (gTup K 2 (gCons (gName 6) (gCons (gName 7) gNil))) (tDrop (tMethX P w K mg base j "add" (tVar 5) (tCons (tVar 6) (tCons (tVar 7) tNil))))) (tSeq (tAsg (tOp rMulX (tOp (rIx K) (tFld K (tVar 5) "heads") (tOp (rI0 fun i j => .int (i - j)) (tOp (rI0 fun i j => .int (i - j)) (tOp (rIx K) (tVar 1) (tC (.int 0))) (tVar 4)) (tVar 2))) (tOp (rIx K) (tFld K (tVar 5) "tails") (tOp (rAddX K) (tOp (rI0 fun i j => .int (i - j)) (tVar 3) (tOp (rIx K) (tVar 1) (tUn (rU fun i => .int (-i)) (tC (.int 1))))) (tVar 4)))) (gName 8)) (tSeq (tFor (iRng1 (tCons (tOp (rI0 fun i j => .int (i - j)) (tCB (rLenA K) (tCons (tVar 1) tNil)) (tC (.int 1))) tNil)) (gName 9) (tAsg (tOp rMulX (tVar 8) (tOp (rIx K) (tFld K (tVar 5) "steps") (tOp (rI0 fun i j => .int (i - j)) (tOp (rIx K) (tVar 1) (tOp (rAddX K) (tVar 9) (tC (.int 1)))) (tOp (rIx K) (tVar 1) (tVar 9))))) (gName 8))) (tRet (tVar 8))))))))))
theorem d_count_pasts {P : Program} {w : World} {K : PySem.W.Frag} {mg : Str → Option Value} {base : Heap} (T : Tx K mg) {j : Nat} {f : Addr} {cdv : Value} {A : Around} {outer : List Env} {s : Shared} {H : Hp} {E : XK} (hr : Room j (A.deeper (envOfC "count_pasts" (defScope s_count_pasts) s.heap.objs.size f cdv))) :
    PSs (cxOf C0 P w K mg base ["row", "times", "begin", "end", "late", "ways", "kind", "quiet", "found", "at"] "count_pasts" (defScope s_count_pasts) f cdv A outer s H E).nox (defBody s_count_pasts) (t_count_pasts P w K mg base j) := by
  exact pss_cons (ps_expr (pe_cx hr (by rfl) (pa_cons (pv 1) pa_nil) (hm := T.hm_check_stream))) (pss_cons (ps_if (pt_cmpR op_gt (pe_op op_addX (pe_op op_sub (pv 3) (pv 2)) pe_int) (C8.pe_gc (by rfl) T.int_MOST_TIMES) (by rfl)) (pss_one ps_never) pss_nil) (pss_cons (ps_if (pt_cmpR (op_eqX hr.units) (pe_callB call_len_seq (by rfl) T.free_len PySem.boot_len (pa_cons (pv 1) pa_nil)) pe_int (by rfl)) (pss_one (ps_ret pe_int)) pss_nil) (pss_cons (ps_set (i := 4) sc_count_pasts.nd rfl (Or.inl rfl) (pe_mx0 hr (pv 0))) (pss_cons (ps_if (PW.pt (pw_or (pt_cmpR op_lt (pe_op op_sub (pe_ix ix_seq (pv 1) pe_int (fun _ _ => rfl)) (pv 4)) (pv 2) (by rfl)) (pw_or1 (pt_cmpR op_gt (pe_op op_sub (pe_ix ix_seq (pv 1) (pe_un un_neg pe_int) (fun _ _ => rfl)) (pv 4)) (pv 3) (by rfl))))) (pss_one (ps_ret pe_int)) pss_nil) (pss_cons (ps_set (i := 5) sc_count_pasts.nd rfl (Or.inl rfl) (pe_kx hr (by rfl) (pa_cons (pe_op op_sub (pv 3) (pv 2)) pa_nil) (hm := T.hm_Ways))) (pss_cons (ps_for PassesOwn.never rfl (pi_seq (pe_cx hr (by rfl) (pa_cons (pv 0) pa_nil) (hm := T.hm_records_of))) (pg_tup rfl (pgs_cons (pg_name (i := 6) sc_count_pasts.nd rfl (Or.inl rfl)) (pgs_cons (pg_name (i := 7) sc_count_pasts.nd rfl (Or.inl rfl)) pgs_nil))) (pss_one (ps_expr (pe_mx hr (pv 5) (pa_cons (pv 6) (pa_cons (pv 7) pa_nil)))))) (pss_cons (ps_set (i := 8) sc_count_pasts.nd rfl (Or.inl rfl) (pe_op op_mulX (pe_ix ix_seq (pe_fld (pv 5) rfl) (pe_op op_sub (pe_op op_sub (pe_ix ix_seq (pv 1) pe_int (fun _ _ => rfl)) (pv 4)) (pv 2)) (fun _ _ => rfl)) (pe_ix ix_seq (pe_fld (pv 5) rfl) (pe_op op_addX (pe_op op_sub (pv 3) (pe_ix ix_seq (pv 1) (pe_un un_neg pe_int) (fun _ _ => rfl))) (pv 4)) (fun _ _ => rfl)))) (pss_cons (ps_for PassesOwn.never rfl (pi_range1 (by rfl) T.free_range (pa_cons (pe_op op_sub (pe_callB call_len_seq (by rfl) T.free_len PySem.boot_len (pa_cons (pv 1) pa_nil)) pe_int) pa_nil)) (pg_name (i := 9) sc_count_pasts.nd rfl (Or.inl rfl)) (pss_one (ps_set (i := 8) sc_count_pasts.nd rfl (Or.inl rfl) (pe_op op_mulX (pv 8) (pe_ix ix_seq (pe_fld (pv 5) rfl) (pe_op op_sub (pe_ix ix_seq (pv 1) (pe_op op_addX (pv 9) pe_int) (fun _ _ => rfl)) (pe_ix ix_seq (pv 1) (pv 9) (fun _ _ => rfl))) (fun _ _ => rfl)))))) (pss_one (ps_ret (pv 8)))))))))))
end Qr

/-! #### Qde -/
set_option maxHeartbeats 4000000
/-! Derivations. Printed by gen2.py. -/
namespace Qr
open PySem PySem.Spec PyProof.Rows L2

theorem sc__law_cell_at : FnScope ["_law_script", "_law_k"] ["_law_script", "_law_k"] (defScope s__law_cell_at) := ⟨rfl, rfl, rfl, by decide +kernel, rfl, by decide +kernel, by decide +kernel⟩
theorem b__law_cell_at (kV doc pm : Value) (an : Option Addr) (cdv ct : Value) (us : List Value) (hl : us.length = 2) : bindArgs (PySem.W.fnOf "_law_cell_at" "_law_cell_at" (defArgs s__law_cell_at) (defBody s__law_cell_at) (defScope s__law_cell_at) .none kV doc pm an cdv ct) ⟨us, []⟩ = pure ((["_law_script", "_law_k"] : List Str).zip us) := match us, hl with | [_, _], _ => rfl
def t__law_cell_at (P : Program) (w : World) (K : PySem.W.Frag) (mg : Str → Option Value) (base : Heap) (j : Nat) : TS := tSeq (tIfS (tTest (tOp (rI0 fun i j => .bl (decide (i < j))) (tVar 1) (tCB (rLenA K) (tCons (tVar 0) tNil)))) (tRet (tOp (rIx K) (tVar 0) (tVar 1))) tNext) (tRet (tC (.int 0)))
theorem d__law_cell_at {P : Program} {w : World} {K : PySem.W.Frag} {mg : Str → Option Value} {base : Heap} (T : Tx K mg) {j : Nat} {f : Addr} {cdv : Value} {A : Around} {outer : List Env} {s : Shared} {H : Hp} {E : XK} (hr : Room j (A.deeper (envOfC "_law_cell_at" (defScope s__law_cell_at) s.heap.objs.size f cdv))) :
    PSs (cxOf C0 P w K mg base ["_law_script", "_law_k"] "_law_cell_at" (defScope s__law_cell_at) f cdv A outer s H E).nox (defBody s__law_cell_at) (t__law_cell_at P w K mg base j) := by
  exact pss_cons (ps_if (pt_cmpR op_lt (pv 1) (pe_callB call_len_seq (by rfl) T.free_len PySem.boot_len (pa_cons (pv 0) pa_nil)) (by rfl)) (pss_one (ps_ret (pe_ix ix_seq (pv 0) (pv 1) (fun _ _ => rfl)))) pss_nil) (pss_one (ps_ret pe_int))
theorem sc__law_state : FnScope ["_law_source"] ["_law_source"] (defScope s__law_state) := ⟨rfl, rfl, rfl, by decide +kernel, rfl, by decide +kernel, by decide +kernel⟩
theorem b__law_state (kV doc pm : Value) (an : Option Addr) (cdv ct : Value) (us : List Value) (hl : us.length = 1) : bindArgs (PySem.W.fnOf "_law_state" "_law_state" (defArgs s__law_state) (defBody s__law_state) (defScope s__law_state) .none kV doc pm an cdv ct) ⟨us, []⟩ = pure ((["_law_source"] : List Str).zip us) := match us, hl with | [_], _ => rfl
def t__law_state (P : Program) (w : World) (K : PySem.W.Frag) (mg : Str → Option Value) (base : Heap) (j : Nat) : TS := tSeq (tAsg (tCB rAbs (tCons (tVar 0) tNil)) (gName 0)) (tRet (tLst (tCons (tOp rMulX (tVar 0) (tCB rInt1 (tCons (tOp (rI0 fun i j => .bl (decide (j ≤ i))) (tVar 0) (tOp (rI CPow fun i j => .int (i ^ j.toNat)) (tC (.int 10)) (tC (.int 18)))) tNil))) (tCons (tOp (rAddX K) (tOp (rI (fun _ j => 0 < j) fun i j => .int (i % j)) (tCB rInt1 (tCons (tVar 0) tNil)) (tC (.int 2147483629))) (tC (.int 7))) (tCons (tOp (rI (fun _ j => 0 < j) fun i j => .int (i % j)) (tCB rInt1 (tCons (tVar 0) tNil)) (tC (.int 2147483587))) tNil)))))
theorem d__law_state {P : Program} {w : World} {K : PySem.W.Frag} {mg : Str → Option Value} {base : Heap} (T : Tx K mg) {j : Nat} {f : Addr} {cdv : Value} {A : Around} {outer : List Env} {s : Shared} {H : Hp} {E : XK} (hr : Room j (A.deeper (envOfC "_law_state" (defScope s__law_state) s.heap.objs.size f cdv))) :
    PSs (cxOf C0 P w K mg base ["_law_source"] "_law_state" (defScope s__law_state) f cdv A outer s H E).nox (defBody s__law_state) (t__law_state P w K mg base j) := by
  exact pss_cons (ps_set (i := 0) sc__law_state.nd rfl (Or.inl rfl) (pe_callB call_abs (by rfl) T.free_abs (by decide +kernel) (pa_cons (pv 0) pa_nil))) (pss_one (ps_ret (pe_lst (pa_cons (pe_op op_mulX (pv 0) (pe_callTy call_int1 (by rfl) T.free_int PyProof.Rows.boot_int (pa_cons (pe_cmpR op_ge (pv 0) (pe_op op_pow pe_int pe_int) (by rfl)) pa_nil))) (pa_cons (pe_op op_addX (pe_op op_mod (pe_callTy call_int1 (by rfl) T.free_int PyProof.Rows.boot_int (pa_cons (pv 0) pa_nil)) pe_int) pe_int) (pa_cons (pe_op op_mod (pe_callTy call_int1 (by rfl) T.free_int PyProof.Rows.boot_int (pa_cons (pv 0) pa_nil)) pe_int) pa_nil))))))
theorem sc__law_digit : FnScope ["_law_state_here", "_law_base", "_law_found", "_law_mixed"] ["_law_state_here", "_law_base"] (defScope s__law_digit) := ⟨rfl, rfl, rfl, by decide +kernel, rfl, by decide +kernel, by decide +kernel⟩
theorem b__law_digit (kV doc pm : Value) (an : Option Addr) (cdv ct : Value) (us : List Value) (hl : us.length = 2) : bindArgs (PySem.W.fnOf "_law_digit" "_law_digit" (defArgs s__law_digit) (defBody s__law_digit) (defScope s__law_digit) .none kV doc pm an cdv ct) ⟨us, []⟩ = pure ((["_law_state_here", "_law_base"] : List Str).zip us) := match us, hl with | [_, _], _ => rfl
def t__law_digit (P : Program) (w : World) (K : PySem.W.Frag) (mg : Str → Option Value) (base : Heap) (j : Nat) : TS := tSeq (tIfS (tTest (tOp (rI0 fun i j => .bl (decide (j < i))) (tOp (rIx K) (tVar 0) (tC (.int 0))) (tC (.int 0)))) (tSeq (tAsg (tOp (rI (fun _ j => 0 < j) fun i j => .int (i % j)) (tCB rInt1 (tCons (tOp (rIx K) (tVar 0) (tC (.int 0))) tNil)) (tVar 1)) (gName 2)) (tSeq (tAsg (tOp (rI CDivW fun i j => .int (i / j)) (tOp (rIx K) (tVar 0) (tC (.int 0))) (tVar 1)) (gSub (tVar 0) (tC (.int 0)) rSetL)) (tRet (tVar 2)))) tNext) (tSeq (tAsg (tOp rMulX (tOp (rIx K) (tVar 0) (tC (.int 1))) (tOp (rAddX K) (tOp (rI CDivW fun i j => .int (i / j)) (tOp (rIx K) (tVar 0) (tC (.int 1))) (tC (.int 1009))) (tC (.int 69621)))) (gName 3)) (tSeq (tAsg (tOp (rAddX K) (tOp (rI (fun _ j => 0 < j) fun i j => .int (i % j)) (tCB rInt1 (tCons (tOp (rAddX K) (tVar 3) (tOp (rIx K) (tVar 0) (tC (.int 2)))) tNil)) (tC (.int 2147483629))) (tC (.int 7))) (gSub (tVar 0) (tC (.int 1)) rSetL)) (tRet (tOp (rI (fun _ j => 0 < j) fun i j => .int (i % j)) (tCB rInt1 (tCons (tOp (rI CDivW fun i j => .int (i / j)) (tOp (rIx K) (tVar 0) (tC (.int 1))) (tC (.int 97))) tNil)) (tVar 1)))))
theorem d__law_digit {P : Program} {w : World} {K : PySem.W.Frag} {mg : Str → Option Value} {base : Heap} (T : Tx K mg) {j : Nat} {f : Addr} {cdv : Value} {A : Around} {outer : List Env} {s : Shared} {H : Hp} {E : XK} (hr : Room j (A.deeper (envOfC "_law_digit" (defScope s__law_digit) s.heap.objs.size f cdv))) :
    PSs (cxOf C0 P w K mg base ["_law_state_here", "_law_base", "_law_found", "_law_mixed"] "_law_digit" (defScope s__law_digit) f cdv A outer s H E).nox (defBody s__law_digit) (t__law_digit P w K mg base j) := by
  exact pss_cons (ps_if (pt_cmpR op_gt (pe_ix ix_seq (pv 0) pe_int (fun _ _ => rfl)) pe_int (by rfl)) (pss_cons (ps_set (i := 2) sc__law_digit.nd rfl (Or.inl rfl) (pe_op op_mod (pe_callTy call_int1 (by rfl) T.free_int PyProof.Rows.boot_int (pa_cons (pe_ix ix_seq (pv 0) pe_int (fun _ _ => rfl)) pa_nil)) (pv 1))) (pss_cons (ps_asg (pe_op op_fdivW (pe_ix ix_seq (pv 0) pe_int (fun _ _ => rfl)) (pv 1)) (pg_sub (pv 0) pe_int set_list)) (pss_one (ps_ret (pv 2))))) pss_nil) (pss_cons (ps_set (i := 3) sc__law_digit.nd rfl (Or.inl rfl) (pe_op op_mulX (pe_ix ix_seq (pv 0) pe_int (fun _ _ => rfl)) (pe_op op_addX (pe_op op_fdivW (pe_ix ix_seq (pv 0) pe_int (fun _ _ => rfl)) pe_int) pe_int))) (pss_cons (ps_asg (pe_op op_addX (pe_op op_mod (pe_callTy call_int1 (by rfl) T.free_int PyProof.Rows.boot_int (pa_cons (pe_op op_addX (pv 3) (pe_ix ix_seq (pv 0) pe_int (fun _ _ => rfl))) pa_nil)) pe_int) pe_int) (pg_sub (pv 0) pe_int set_list)) (pss_one (ps_ret (pe_op op_mod (pe_callTy call_int1 (by rfl) T.free_int PyProof.Rows.boot_int (pa_cons (pe_op op_fdivW (pe_ix ix_seq (pv 0) pe_int (fun _ _ => rfl)) pe_int) pa_nil)) (pv 1))))))
theorem sc__law_kinds : FnScope [] [] (defScope s__law_kinds) := ⟨rfl, rfl, rfl, by decide +kernel, rfl, by decide +kernel, by decide +kernel⟩
theorem b__law_kinds (kV doc pm : Value) (an : Option Addr) (cdv ct : Value) (us : List Value) (hl : us.length = 0) : bindArgs (PySem.W.fnOf "_law_kinds" "_law_kinds" (defArgs s__law_kinds) (defBody s__law_kinds) (defScope s__law_kinds) .none kV doc pm an cdv ct) ⟨us, []⟩ = pure (([] : List Str).zip us) := match us, hl with | [], _ => rfl
def t__law_kinds (P : Program) (w : World) (K : PySem.W.Frag) (mg : Str → Option Value) (base : Heap) (j : Nat) : TS := tRet (tLst (tCons (tC (.str "last")) (tCons (tC (.str "first")) (tCons (tC (.str "limit")) tNil))))
theorem d__law_kinds {P : Program} {w : World} {K : PySem.W.Frag} {mg : Str → Option Value} {base : Heap} (T : Tx K mg) {j : Nat} {f : Addr} {cdv : Value} {A : Around} {outer : List Env} {s : Shared} {H : Hp} {E : XK} (hr : Room j (A.deeper (envOfC "_law_kinds" (defScope s__law_kinds) s.heap.objs.size f cdv))) :
    PSs (cxOf C0 P w K mg base [] "_law_kinds" (defScope s__law_kinds) f cdv A outer s H E).nox (defBody s__law_kinds) (t__law_kinds P w K mg base j) := by
  exact pss_one (ps_ret (pe_lst (pa_cons pe_str (pa_cons pe_str (pa_cons pe_str pa_nil)))))
theorem sc__law_members : FnScope ["_law_s", "_law_many", "_law_most", "_law_found", "_law_turn"] ["_law_s", "_law_many", "_law_most"] (defScope s__law_members) := ⟨rfl, rfl, rfl, by decide +kernel, rfl, by decide +kernel, by decide +kernel⟩
theorem b__law_members (kV doc pm : Value) (an : Option Addr) (cdv ct : Value) (us : List Value) (hl : us.length = 3) : bindArgs (PySem.W.fnOf "_law_members" "_law_members" (defArgs s__law_members) (defBody s__law_members) (defScope s__law_members) .none kV doc pm an cdv ct) ⟨us, []⟩ = pure ((["_law_s", "_law_many", "_law_most"] : List Str).zip us) := match us, hl with | [_, _, _], _ => rfl
def t__law_members (P : Program) (w : World) (K : PySem.W.Frag) (mg : Str → Option Value) (base : Heap) (j : Nat) : TS := tSeq (tAsg (tLst tNil) (gName 3)) (tSeq (tFor (iRng1 (tCons (tCallX P w K mg base j "_law_digit" (tCons (tVar 0) (tCons (tOp (rAddX K) (tVar 1) (tC (.int 1))) tNil))) tNil)) (gName 4) (tIfS (tTest (tOp (rEqX K) (tCallX P w K mg base j "_law_digit" (tCons (tVar 0) (tCons (tC (.int 6)) tNil))) (tC (.int 0)))) (tDrop (tBM K "list" rAppend (tVar 3) (tCons (tTup (tCons (tC (.str "delay")) (tCons (tCallX P w K mg base j "_law_digit" (tCons (tVar 0) (tCons (tVar 2) tNil))) tNil))) tNil))) (tDrop (tBM K "list" rAppend (tVar 3) (tCons (tTup (tCons (tOp (rIx K) (tCallX P w K mg base j "_law_kinds" tNil) (tCallX P w K mg base j "_law_digit" (tCons (tVar 0) (tCons (tC (.int 3)) tNil)))) (tCons (tOp (rAddX K) (tC (.int 1)) (tCallX P w K mg base j "_law_digit" (tCons (tVar 0) (tCons (tVar 2) tNil)))) tNil))) tNil))))) (tRet (tVar 3)))
theorem d__law_members {P : Program} {w : World} {K : PySem.W.Frag} {mg : Str → Option Value} {base : Heap} (T : Tx K mg) {j : Nat} {f : Addr} {cdv : Value} {A : Around} {outer : List Env} {s : Shared} {H : Hp} {E : XK} (hr : Room j (A.deeper (envOfC "_law_members" (defScope s__law_members) s.heap.objs.size f cdv))) :
    PSs (cxOf C0 P w K mg base ["_law_s", "_law_many", "_law_most", "_law_found", "_law_turn"] "_law_members" (defScope s__law_members) f cdv A outer s H E).nox (defBody s__law_members) (t__law_members P w K mg base j) := by
  exact pss_cons (ps_set (i := 3) sc__law_members.nd rfl (Or.inl rfl) (pe_lst pa_nil)) (pss_cons (ps_for PassesOwn.never rfl (pi_range1 (by rfl) T.free_range (pa_cons (pe_cx hr (by rfl) (pa_cons (pv 0) (pa_cons (pe_op op_addX (pv 1) pe_int) pa_nil)) (hm := T.hm__law_digit)) pa_nil)) (pg_name (i := 4) sc__law_members.nd rfl (Or.inl rfl)) (pss_one (ps_if (pt_cmpR (op_eqX hr.units) (pe_cx hr (by rfl) (pa_cons (pv 0) (pa_cons pe_int pa_nil)) (hm := T.hm__law_digit)) pe_int (by rfl)) (pss_one (ps_expr (pe_bm PySem.F.plainAttrs_list PySem.F.slot_list_append PySem.F.type_list_append mt_append (pv 3) (pa_cons (pe_tup (pa_cons pe_str (pa_cons (pe_cx hr (by rfl) (pa_cons (pv 0) (pa_cons (pv 2) pa_nil)) (hm := T.hm__law_digit)) pa_nil))) pa_nil)))) (pss_one (ps_expr (pe_bm PySem.F.plainAttrs_list PySem.F.slot_list_append PySem.F.type_list_append mt_append (pv 3) (pa_cons (pe_tup (pa_cons (pe_ix ix_seq (pe_cx0 hr (by rfl) (hm := T.hm__law_kinds)) (pe_cx hr (by rfl) (pa_cons (pv 0) (pa_cons pe_int pa_nil)) (hm := T.hm__law_digit)) (fun _ _ => rfl)) (pa_cons (pe_op op_addX pe_int (pe_cx hr (by rfl) (pa_cons (pv 0) (pa_cons (pv 2) pa_nil)) (hm := T.hm__law_digit))) pa_nil))) pa_nil))))))) (pss_one (ps_ret (pv 3))))
theorem sc__law_made : FnScope ["_law_members_here", "_law_found", "_law_kind", "_law_number"] ["_law_members_here"] (defScope s__law_made) := ⟨rfl, rfl, rfl, by decide +kernel, rfl, by decide +kernel, by decide +kernel⟩
theorem b__law_made (kV doc pm : Value) (an : Option Addr) (cdv ct : Value) (us : List Value) (hl : us.length = 1) : bindArgs (PySem.W.fnOf "_law_made" "_law_made" (defArgs s__law_made) (defBody s__law_made) (defScope s__law_made) .none kV doc pm an cdv ct) ⟨us, []⟩ = pure ((["_law_members_here"] : List Str).zip us) := match us, hl with | [_], _ => rfl
def t__law_made (P : Program) (w : World) (K : PySem.W.Frag) (mg : Str → Option Value) (base : Heap) (j : Nat) : TS := tSeq (tAsg (tLst tNil) (gName 1)) (tSeq (tFor (iSeq K (tVar 0)) (gTup K 2 (gCons (gName 2) (gCons (gName 3) gNil))) (tIfS (tTest (tOp (rEqX K) (tVar 2) (tC (.str "last")))) (tDrop (tBM K "list" rAppend (tVar 1) (tCons (tMakeX P w K mg base j "Last" (tCons (tVar 3) tNil)) tNil))) (tIfS (tTest (tOp (rEqX K) (tVar 2) (tC (.str "first")))) (tDrop (tBM K "list" rAppend (tVar 1) (tCons (tMakeX P w K mg base j "First" (tCons (tVar 3) tNil)) tNil))) (tIfS (tTest (tOp (rEqX K) (tVar 2) (tC (.str "limit")))) (tDrop (tBM K "list" rAppend (tVar 1) (tCons (tMakeX P w K mg base j "Limit" (tCons (tVar 3) tNil)) tNil))) (tDrop (tBM K "list" rAppend (tVar 1) (tCons (tMakeX P w K mg base j "Delay" (tCons (tVar 3) tNil)) tNil))))))) (tRet (tVar 1)))
theorem d__law_made {P : Program} {w : World} {K : PySem.W.Frag} {mg : Str → Option Value} {base : Heap} (T : Tx K mg) {j : Nat} {f : Addr} {cdv : Value} {A : Around} {outer : List Env} {s : Shared} {H : Hp} {E : XK} (hr : Room j (A.deeper (envOfC "_law_made" (defScope s__law_made) s.heap.objs.size f cdv))) :
    PSs (cxOf C0 P w K mg base ["_law_members_here", "_law_found", "_law_kind", "_law_number"] "_law_made" (defScope s__law_made) f cdv A outer s H E).nox (defBody s__law_made) (t__law_made P w K mg base j) := by
  exact pss_cons (ps_set (i := 1) sc__law_made.nd rfl (Or.inl rfl) (pe_lst pa_nil)) (pss_cons (ps_for PassesOwn.never rfl (pi_seq (pv 0)) (pg_tup rfl (pgs_cons (pg_name (i := 2) sc__law_made.nd rfl (Or.inl rfl)) (pgs_cons (pg_name (i := 3) sc__law_made.nd rfl (Or.inl rfl)) pgs_nil))) (pss_one (ps_if (pt_cmpR (op_eqX hr.units) (pv 2) pe_str (by rfl)) (pss_one (ps_expr (pe_bm PySem.F.plainAttrs_list PySem.F.slot_list_append PySem.F.type_list_append mt_append (pv 1) (pa_cons (pe_kx hr (by rfl) (pa_cons (pv 3) pa_nil) (hm := T.hm_Last)) pa_nil)))) (pss_one (ps_if (pt_cmpR (op_eqX hr.units) (pv 2) pe_str (by rfl)) (pss_one (ps_expr (pe_bm PySem.F.plainAttrs_list PySem.F.slot_list_append PySem.F.type_list_append mt_append (pv 1) (pa_cons (pe_kx hr (by rfl) (pa_cons (pv 3) pa_nil) (hm := T.hm_First)) pa_nil)))) (pss_one (ps_if (pt_cmpR (op_eqX hr.units) (pv 2) pe_str (by rfl)) (pss_one (ps_expr (pe_bm PySem.F.plainAttrs_list PySem.F.slot_list_append PySem.F.type_list_append mt_append (pv 1) (pa_cons (pe_kx hr (by rfl) (pa_cons (pv 3) pa_nil) (hm := T.hm_Limit)) pa_nil)))) (pss_one (ps_expr (pe_bm PySem.F.plainAttrs_list PySem.F.slot_list_append PySem.F.type_list_append mt_append (pv 1) (pa_cons (pe_kx hr (by rfl) (pa_cons (pv 3) pa_nil) (hm := T.hm_Delay)) pa_nil))))))))))) (pss_one (ps_ret (pv 1))))
theorem sc__law_stream : FnScope ["_law_s", "_law_many", "_law_gaps", "_law_found", "_law_time", "_law_turn"] ["_law_s", "_law_many", "_law_gaps"] (defScope s__law_stream) := ⟨rfl, rfl, rfl, by decide +kernel, rfl, by decide +kernel, by decide +kernel⟩
theorem b__law_stream (kV doc pm : Value) (an : Option Addr) (cdv ct : Value) (us : List Value) (hl : us.length = 3) : bindArgs (PySem.W.fnOf "_law_stream" "_law_stream" (defArgs s__law_stream) (defBody s__law_stream) (defScope s__law_stream) .none kV doc pm an cdv ct) ⟨us, []⟩ = pure ((["_law_s", "_law_many", "_law_gaps"] : List Str).zip us) := match us, hl with | [_, _, _], _ => rfl
def t__law_stream (P : Program) (w : World) (K : PySem.W.Frag) (mg : Str → Option Value) (base : Heap) (j : Nat) : TS := tSeq (tPar 3 4 (tCons (tLst tNil) (tCons (tOp (rI0 fun i j => .int (i - j)) (tCallX P w K mg base j "_law_digit" (tCons (tVar 0) (tCons (tC (.int 41)) tNil))) (tC (.int 20))) tNil))) (tSeq (tFor (iRng1 (tCons (tCallX P w K mg base j "_law_digit" (tCons (tVar 0) (tCons (tOp (rAddX K) (tVar 1) (tC (.int 1))) tNil))) tNil)) (gName 5) (tSeq (tDrop (tBM K "list" rAppend (tVar 3) (tCons (tVar 4) tNil))) (tAsg (tOp (rAddX K) (tVar 4) (tOp (rIx K) (tVar 2) (tCallX P w K mg base j "_law_digit" (tCons (tVar 0) (tCons (tCB (rLenA K) (tCons (tVar 2) tNil)) tNil))))) (gName 4)))) (tRet (tVar 3)))
theorem d__law_stream {P : Program} {w : World} {K : PySem.W.Frag} {mg : Str → Option Value} {base : Heap} (T : Tx K mg) {j : Nat} {f : Addr} {cdv : Value} {A : Around} {outer : List Env} {s : Shared} {H : Hp} {E : XK} (hr : Room j (A.deeper (envOfC "_law_stream" (defScope s__law_stream) s.heap.objs.size f cdv))) :
    PSs (cxOf C0 P w K mg base ["_law_s", "_law_many", "_law_gaps", "_law_found", "_law_time", "_law_turn"] "_law_stream" (defScope s__law_stream) f cdv A outer s H E).nox (defBody s__law_stream) (t__law_stream P w K mg base j) := by
  exact pss_cons (ps_par (by rfl) sc__law_stream.nd rfl rfl (by decide) rfl rfl (pa_cons (pe_lst pa_nil) (pa_cons (pe_op op_sub (pe_cx hr (by rfl) (pa_cons (pv 0) (pa_cons pe_int pa_nil)) (hm := T.hm__law_digit)) pe_int) pa_nil)) (by rfl)) (pss_cons (ps_for PassesOwn.never rfl (pi_range1 (by rfl) T.free_range (pa_cons (pe_cx hr (by rfl) (pa_cons (pv 0) (pa_cons (pe_op op_addX (pv 1) pe_int) pa_nil)) (hm := T.hm__law_digit)) pa_nil)) (pg_name (i := 5) sc__law_stream.nd rfl (Or.inl rfl)) (pss_cons (ps_expr (pe_bm PySem.F.plainAttrs_list PySem.F.slot_list_append PySem.F.type_list_append mt_append (pv 3) (pa_cons (pv 4) pa_nil))) (pss_one (ps_set (i := 4) sc__law_stream.nd rfl (Or.inl rfl) (pe_op op_addX (pv 4) (pe_ix ix_seq (pv 2) (pe_cx hr (by rfl) (pa_cons (pv 0) (pa_cons (pe_callB call_len_seq (by rfl) T.free_len PySem.boot_len (pa_cons (pv 2) pa_nil)) pa_nil)) (hm := T.hm__law_digit)) (fun _ _ => rfl))))))) (pss_one (ps_ret (pv 3))))
theorem sc__law_some : FnScope ["_law_s", "_law_found", "_law_kind", "_law_number"] ["_law_s"] (defScope s__law_some) := ⟨rfl, rfl, rfl, by decide +kernel, rfl, by decide +kernel, by decide +kernel⟩
theorem b__law_some (kV doc pm : Value) (an : Option Addr) (cdv ct : Value) (us : List Value) (hl : us.length = 1) : bindArgs (PySem.W.fnOf "_law_some" "_law_some" (defArgs s__law_some) (defBody s__law_some) (defScope s__law_some) .none kV doc pm an cdv ct) ⟨us, []⟩ = pure ((["_law_s"] : List Str).zip us) := match us, hl with | [_], _ => rfl
def t__law_some (P : Program) (w : World) (K : PySem.W.Frag) (mg : Str → Option Value) (base : Heap) (j : Nat) : TS := tSeq (tAsg (tLst tNil) (gName 1)) (tSeq (tFor (iSeq K (tCallX P w K mg base j "_law_members" (tCons (tVar 0) (tCons (tC (.int 6)) (tCons (tOp (rIx K) (tLst (tCons (tC (.int 5)) (tCons (tC (.int 12)) tNil))) (tCallX P w K mg base j "_law_digit" (tCons (tVar 0) (tCons (tC (.int 2)) tNil)))) tNil))))) (gTup K 2 (gCons (gName 2) (gCons (gName 3) gNil))) (tDrop (tBM K "list" rAppend (tVar 1) (tCons (tTup (tCons (tIf (tTest (tOp (rNeX K) (tVar 2) (tC (.str "limit")))) (tVar 2) (tOp (rIx K) (tLst (tCons (tC (.str "last")) (tCons (tC (.str "first")) tNil))) (tCallX P w K mg base j "_law_digit" (tCons (tVar 0) (tCons (tC (.int 2)) tNil))))) (tCons (tVar 3) tNil))) tNil)))) (tRet (tVar 1)))
theorem d__law_some {P : Program} {w : World} {K : PySem.W.Frag} {mg : Str → Option Value} {base : Heap} (T : Tx K mg) {j : Nat} {f : Addr} {cdv : Value} {A : Around} {outer : List Env} {s : Shared} {H : Hp} {E : XK} (hr : Room j (A.deeper (envOfC "_law_some" (defScope s__law_some) s.heap.objs.size f cdv))) :
    PSs (cxOf C0 P w K mg base ["_law_s", "_law_found", "_law_kind", "_law_number"] "_law_some" (defScope s__law_some) f cdv A outer s H E).nox (defBody s__law_some) (t__law_some P w K mg base j) := by
  exact pss_cons (ps_set (i := 1) sc__law_some.nd rfl (Or.inl rfl) (pe_lst pa_nil)) (pss_cons (ps_for PassesOwn.never rfl (pi_seq (pe_cx hr (by rfl) (pa_cons (pv 0) (pa_cons pe_int (pa_cons (pe_ix ix_seq (pe_lst (pa_cons pe_int (pa_cons pe_int pa_nil))) (pe_cx hr (by rfl) (pa_cons (pv 0) (pa_cons pe_int pa_nil)) (hm := T.hm__law_digit)) (fun _ _ => rfl)) pa_nil))) (hm := T.hm__law_members))) (pg_tup rfl (pgs_cons (pg_name (i := 2) sc__law_some.nd rfl (Or.inl rfl)) (pgs_cons (pg_name (i := 3) sc__law_some.nd rfl (Or.inl rfl)) pgs_nil))) (pss_one (ps_expr (pe_bm PySem.F.plainAttrs_list PySem.F.slot_list_append PySem.F.type_list_append mt_append (pv 1) (pa_cons (pe_tup (pa_cons (pe_ifExp (pt_cmpR (op_neX hr.units) (pv 2) pe_str (by rfl)) (pv 2) (pe_ix ix_seq (pe_lst (pa_cons pe_str (pa_cons pe_str pa_nil))) (pe_cx hr (by rfl) (pa_cons (pv 0) (pa_cons pe_int pa_nil)) (hm := T.hm__law_digit)) (fun _ _ => rfl))) (pa_cons (pv 3) pa_nil))) pa_nil))))) (pss_one (ps_ret (pv 1))))
theorem sc__law_turned : FnScope ["_law_members_here", "_law_kinds_here", "_law_kind", "_law_number"] ["_law_members_here"] (defScope s__law_turned) := ⟨rfl, rfl, rfl, by decide +kernel, rfl, by decide +kernel, by decide +kernel⟩
theorem b__law_turned (kV doc pm : Value) (an : Option Addr) (cdv ct : Value) (us : List Value) (hl : us.length = 1) : bindArgs (PySem.W.fnOf "_law_turned" "_law_turned" (defArgs s__law_turned) (defBody s__law_turned) (defScope s__law_turned) .none kV doc pm an cdv ct) ⟨us, []⟩ = pure ((["_law_members_here"] : List Str).zip us) := match us, hl with | [_], _ => rfl
def t__law_turned (P : Program) (w : World) (K : PySem.W.Frag) (mg : Str → Option Value) (base : Heap) (j : Nat) : TS := tSeq (tAsg (tDisp [(tC (.str "last"), tC (.str "first")), (tC (.str "first"), tC (.str "last")), (tC (.str "delay"), tC (.str "delay"))]) (gName 1)) (tRet (tLc (iSeq K (tVar 0)) (gTup K 2 (gCons (gName 2) (gCons (gName 3) gNil))) tYes (tTup (tCons (tDGet (tVar 1) (tVar 2)) (tCons (tVar 3) tNil))) [2, 3]))
theorem d__law_turned {P : Program} {w : World} {K : PySem.W.Frag} {mg : Str → Option Value} {base : Heap} (T : Tx K mg) {j : Nat} {f : Addr} {cdv : Value} {A : Around} {outer : List Env} {s : Shared} {H : Hp} {E : XK} (hr : Room j (A.deeper (envOfC "_law_turned" (defScope s__law_turned) s.heap.objs.size f cdv))) :
    PSs (cxOf C0 P w K mg base ["_law_members_here", "_law_kinds_here", "_law_kind", "_law_number"] "_law_turned" (defScope s__law_turned) f cdv A outer s H E).nox (defBody s__law_turned) (t__law_turned P w K mg base j) := by
  have hu := hu_of hr
  exact pss_cons (ps_set (i := 1) sc__law_turned.nd rfl (Or.inr rfl) (pe_disp (pps_cons pe_str pe_str (pps_cons pe_str pe_str (pps_cons pe_str pe_str pps_nil))) (by rfl) (by rfl) (fun z => by cases z) (by decide))) (pss_one (ps_ret (pe_lc (own := [("_law_kind", 2), ("_law_number", 3)]) rfl sc__law_turned.nd (pi_seq (pv 0)) (blkOk_by (N := ["_law_members_here", "_law_kinds_here", "_law_kind", "_law_number"]) (sc := defScope s__law_turned) (by decide +kernel)) (fun _ _ _ _ _ => pg_tup rfl (pgs_cons (pg_name (i := 2) sc__law_turned.nd rfl (Or.inl rfl)) (pgs_cons (pg_name (i := 3) sc__law_turned.nd rfl (Or.inl rfl)) pgs_nil))) (fun _ _ _ _ _ => pts_nil) (fun _ _ _ _ _ => pe_tup (pa_cons (pe_dget hu (pv 1) (pv 2) (fun _ _ => rfl)) (pa_cons (pv 3) pa_nil))))))
theorem sc__law_numbers_right : FnScope ["_law_row", "_law_twin", "_law_stream_here", "_law_there", "_law_many", "_law_found", "_law_mirror", "_law_due", "_law_time", "_law_one"] ["_law_row", "_law_twin", "_law_stream_here"] (defScope s__law_numbers_right) := ⟨rfl, rfl, rfl, by decide +kernel, rfl, by decide +kernel, by decide +kernel⟩
theorem b__law_numbers_right (kV doc pm : Value) (an : Option Addr) (cdv ct : Value) (us : List Value) (hl : us.length = 3) : bindArgs (PySem.W.fnOf "_law_numbers_right" "_law_numbers_right" (defArgs s__law_numbers_right) (defBody s__law_numbers_right) (defScope s__law_numbers_right) .none kV doc pm an cdv ct) ⟨us, []⟩ = pure ((["_law_row", "_law_twin", "_law_stream_here"] : List Str).zip us) := match us, hl with | [_, _, _], _ => rfl
def t__law_numbers_right (P : Program) (w : World) (K : PySem.W.Frag) (mg : Str → Option Value) (base : Heap) (j : Nat) : TS := tSeq (tAsg (tTup (tCons (tLc (iSeq K (tRevL K (tVar 2))) (gName 8) tYes (tOp (rI0 fun i j => .int (i - j)) (tC (.int 0)) (tVar 8)) [8]) (tCons (tCB (rLenA K) (tCons (tVar 2) tNil)) tNil))) (gTup K 2 (gCons (gName 3) (gCons (gName 4) gNil)))) (tSeq (tPar 5 6 (tCons (tCallX P w K mg base j "told_events" (tCons (tVar 0) (tCons (tVar 2) tNil))) (tCons (tCallX P w K mg base j "told_events" (tCons (tVar 1) (tCons (tVar 3) tNil))) tNil))) (tSeq (tAsg (tLc (iSeq K (tRevL K (tVar 5))) (gName 9) tYes (tTup (tCons (tOp (rI0 fun i j => .int (i - j)) (tOp (rI0 fun i j => .int (i - j)) (tVar 4) (tC (.int 1))) (tFld K (tVar 9) "number")) (tCons (tOp (rI0 fun i j => .int (i - j)) (tOp (rI0 fun i j => .int (i - j)) (tVar 4) (tC (.int 1))) (tFld K (tVar 9) "last")) (tCons (tOp (rI0 fun i j => .int (i - j)) (tOp (rI0 fun i j => .int (i - j)) (tVar 4) (tC (.int 1))) (tFld K (tVar 9) "first")) tNil)))) [9]) (gName 7)) (tRet (tOp (rEqX K) (tLc (iSeq K (tVar 6)) (gName 9) tYes (tTup (tCons (tFld K (tVar 9) "number") (tCons (tFld K (tVar 9) "first") (tCons (tFld K (tVar 9) "last") tNil)))) [9]) (tVar 7)))))
theorem d__law_numbers_right {P : Program} {w : World} {K : PySem.W.Frag} {mg : Str → Option Value} {base : Heap} (T : Tx K mg) {j : Nat} {f : Addr} {cdv : Value} {A : Around} {outer : List Env} {s : Shared} {H : Hp} {E : XK} (hr : Room j (A.deeper (envOfC "_law_numbers_right" (defScope s__law_numbers_right) s.heap.objs.size f cdv))) :
    PSs (cxOf C0 P w K mg base ["_law_row", "_law_twin", "_law_stream_here", "_law_there", "_law_many", "_law_found", "_law_mirror", "_law_due", "_law_time", "_law_one"] "_law_numbers_right" (defScope s__law_numbers_right) f cdv A outer s H E).nox (defBody s__law_numbers_right) (t__law_numbers_right P w K mg base j) := by
  exact pss_cons (ps_asg (pe_tup (pa_cons (pe_lc (own := [("_law_time", 8)]) rfl sc__law_numbers_right.nd (pi_seq (pe_revL (pv 2))) (blkOk_by (N := ["_law_row", "_law_twin", "_law_stream_here", "_law_there", "_law_many", "_law_found", "_law_mirror", "_law_due", "_law_time", "_law_one"]) (sc := defScope s__law_numbers_right) (by decide +kernel)) (fun _ _ _ _ _ => pg_name (i := 8) sc__law_numbers_right.nd rfl (Or.inl rfl)) (fun _ _ _ _ _ => pts_nil) (fun _ _ _ _ _ => pe_op op_sub pe_int (pv 8))) (pa_cons (pe_callB call_len_seq (by rfl) T.free_len PySem.boot_len (pa_cons (pv 2) pa_nil)) pa_nil))) (pg_tup rfl (pgs_cons (pg_name (i := 3) sc__law_numbers_right.nd rfl (Or.inl rfl)) (pgs_cons (pg_name (i := 4) sc__law_numbers_right.nd rfl (Or.inr rfl)) pgs_nil)))) (pss_cons (ps_par (by rfl) sc__law_numbers_right.nd rfl rfl (by decide) rfl rfl (pa_cons (pe_cx hr (by rfl) (pa_cons (pv 0) (pa_cons (pv 2) pa_nil)) (hm := T.hm_told_events)) (pa_cons (pe_cx hr (by rfl) (pa_cons (pv 1) (pa_cons (pv 3) pa_nil)) (hm := T.hm_told_events)) pa_nil)) (by rfl)) (pss_cons (ps_setLc (i := 7) (own := [("_law_one", 9)]) rfl sc__law_numbers_right.nd rfl rfl (sw_true rfl rfl rfl (by decide +kernel)) (pi_seq (pe_revL (pv 5))) (blkOk_by (N := ["_law_row", "_law_twin", "_law_stream_here", "_law_there", "_law_many", "_law_found", "_law_mirror", "_law_due", "_law_time", "_law_one"]) (sc := defScope s__law_numbers_right) (by decide +kernel)) (fun _ _ _ _ _ => pg_name (i := 9) sc__law_numbers_right.nd rfl (Or.inl rfl)) (fun _ _ _ _ _ => pts_nil) (fun _ _ _ _ _ => pe_tup (pa_cons (pe_op op_sub (pe_op op_sub (pv 4) pe_int) (pe_fld (pv 9) rfl)) (pa_cons (pe_op op_sub (pe_op op_sub (pv 4) pe_int) (pe_fld (pv 9) rfl)) (pa_cons (pe_op op_sub (pe_op op_sub (pv 4) pe_int) (pe_fld (pv 9) rfl)) pa_nil))))) (pss_one (ps_ret (pe_cmpR (op_eqX hr.units) (pe_lc (own := [("_law_one", 9)]) rfl sc__law_numbers_right.nd (pi_seq (pv 6)) (blkOk_by (N := ["_law_row", "_law_twin", "_law_stream_here", "_law_there", "_law_many", "_law_found", "_law_mirror", "_law_due", "_law_time", "_law_one"]) (sc := defScope s__law_numbers_right) (by decide +kernel)) (fun _ _ _ _ _ => pg_name (i := 9) sc__law_numbers_right.nd rfl (Or.inl rfl)) (fun _ _ _ _ _ => pts_nil) (fun _ _ _ _ _ => pe_tup (pa_cons (pe_fld (pv 9) rfl) (pa_cons (pe_fld (pv 9) rfl) (pa_cons (pe_fld (pv 9) rfl) pa_nil))))) (pv 7) (by rfl))))))
theorem sc__law_pasts_right : FnScope ["_law_row", "_law_twin", "_law_members_here", "_law_stream_here", "_law_late", "_law_other", "_law_times", "_law_events", "_law_begin", "_law_end", "_law_there", "_law_kind", "_law_number", "_law_time"] ["_law_row", "_law_twin", "_law_members_here", "_law_stream_here"] (defScope s__law_pasts_right) := ⟨rfl, rfl, rfl, by decide +kernel, rfl, by decide +kernel, by decide +kernel⟩
theorem b__law_pasts_right (kV doc pm : Value) (an : Option Addr) (cdv ct : Value) (us : List Value) (hl : us.length = 4) : bindArgs (PySem.W.fnOf "_law_pasts_right" "_law_pasts_right" (defArgs s__law_pasts_right) (defBody s__law_pasts_right) (defScope s__law_pasts_right) .none kV doc pm an cdv ct) ⟨us, []⟩ = pure ((["_law_row", "_law_twin", "_law_members_here", "_law_stream_here"] : List Str).zip us) := match us, hl with | [_, _, _, _], _ => rfl
def t__law_pasts_right (P : Program) (w : World) (K : PySem.W.Frag) (mg : Str → Option Value) (base : Heap) (j : Nat) : TS := tSeq (tAsg (tCB (rSum K) (tCons (tLc (iSeq K (tVar 2)) (gTup K 2 (gCons (gName 11) (gCons (gName 12) gNil))) (tTest (tOp (rIn K false) (tVar 11) (tTup (tCons (tC (.str "last")) (tCons (tC (.str "delay")) tNil))))) (tVar 12) [11, 12]) tNil)) (gName 4)) (tSeq (tAsg (tCB (rSum K) (tCons (tLc (iSeq K (tVar 2)) (gTup K 2 (gCons (gName 11) (gCons (gName 12) gNil))) (tTest (tOp (rIn K false) (tVar 11) (tTup (tCons (tC (.str "first")) (tCons (tC (.str "delay")) tNil))))) (tVar 12) [11, 12]) tNil)) (gName 5)) (tSeq (tAsg (tCallX P w K mg base j "told_times" (tCons (tVar 0) (tCons (tVar 3) tNil))) (gName 6)) (tSeq (tAsg (tLc (iSeq K (tVar 6)) (gName 13) tYes (tOp (rI0 fun i j => .int (i - j)) (tVar 13) (tVar 4)) [13]) (gName 7)) (tSeq (tPar 8 9 (tCons (tOp (rI0 fun i j => .int (i - j)) (tOp (rIx K) (tVar 3) (tC (.int 0))) (tC (.int 2))) (tCons (tOp (rAddX K) (tOp (rIx K) (tVar 3) (tUn (rU fun i => .int (-i)) (tC (.int 1)))) (tC (.int 3))) tNil))) (tSeq (tAsg (tLc (iSeq K (tRevL K (tVar 7))) (gName 13) tYes (tOp (rI0 fun i j => .int (i - j)) (tVar 5) (tVar 13)) [13]) (gName 10)) (tSeq (tIfS (tOr (tNot (tTruV K (tCallX P w K mg base j "can_tell" (tCons (tVar 0) (tCons (tVar 6) tNil))))) (tNot (tTruV K (tCallX P w K mg base j "can_tell" (tCons (tVar 1) (tCons (tVar 10) tNil)))))) (tRet (tC (.bl false))) tNext) (tRet (tOp (rEqX K) (tCallX P w K mg base j "count_pasts" (tCons (tVar 0) (tCons (tVar 6) (tCons (tVar 8) (tCons (tVar 9) tNil))))) (tCallX P w K mg base j "count_pasts" (tCons (tVar 1) (tCons (tVar 10) (tCons (tOp (rI0 fun i j => .int (i - j)) (tC (.int 0)) (tVar 9)) (tCons (tOp (rI0 fun i j => .int (i - j)) (tC (.int 0)) (tVar 8)) tNil)))))))))))))
theorem d__law_pasts_right {P : Program} {w : World} {K : PySem.W.Frag} {mg : Str → Option Value} {base : Heap} (T : Tx K mg) {j : Nat} {f : Addr} {cdv : Value} {A : Around} {outer : List Env} {s : Shared} {H : Hp} {E : XK} (hr : Room j (A.deeper (envOfC "_law_pasts_right" (defScope s__law_pasts_right) s.heap.objs.size f cdv))) :
    PSs (cxOf C0 P w K mg base ["_law_row", "_law_twin", "_law_members_here", "_law_stream_here", "_law_late", "_law_other", "_law_times", "_law_events", "_law_begin", "_law_end", "_law_there", "_law_kind", "_law_number", "_law_time"] "_law_pasts_right" (defScope s__law_pasts_right) f cdv A outer s H E).nox (defBody s__law_pasts_right) (t__law_pasts_right P w K mg base j) := by
  exact pss_cons (ps_set (i := 4) sc__law_pasts_right.nd rfl (Or.inr rfl) (pe_callB (cr_sum rfl) (by rfl) T.free_sum PyProof.Rows.boot_sum (pa_cons (pe_lc (own := [("_law_kind", 11), ("_law_number", 12)]) rfl sc__law_pasts_right.nd (pi_seq (pv 2)) (blkOk_by (N := ["_law_row", "_law_twin", "_law_members_here", "_law_stream_here", "_law_late", "_law_other", "_law_times", "_law_events", "_law_begin", "_law_end", "_law_there", "_law_kind", "_law_number", "_law_time"]) (sc := defScope s__law_pasts_right) (by decide +kernel)) (fun _ _ _ _ _ => pg_tup rfl (pgs_cons (pg_name (i := 11) sc__law_pasts_right.nd rfl (Or.inl rfl)) (pgs_cons (pg_name (i := 12) sc__law_pasts_right.nd rfl (Or.inl rfl)) pgs_nil))) (fun _ _ _ _ _ => pts_one (pt_cmpR op_in_seq (pv 11) (pe_tup (pa_cons pe_str (pa_cons pe_str pa_nil))) (by rfl))) (fun _ _ _ _ _ => pv 12)) pa_nil))) (pss_cons (ps_set (i := 5) sc__law_pasts_right.nd rfl (Or.inr rfl) (pe_callB (cr_sum rfl) (by rfl) T.free_sum PyProof.Rows.boot_sum (pa_cons (pe_lc (own := [("_law_kind", 11), ("_law_number", 12)]) rfl sc__law_pasts_right.nd (pi_seq (pv 2)) (blkOk_by (N := ["_law_row", "_law_twin", "_law_members_here", "_law_stream_here", "_law_late", "_law_other", "_law_times", "_law_events", "_law_begin", "_law_end", "_law_there", "_law_kind", "_law_number", "_law_time"]) (sc := defScope s__law_pasts_right) (by decide +kernel)) (fun _ _ _ _ _ => pg_tup rfl (pgs_cons (pg_name (i := 11) sc__law_pasts_right.nd rfl (Or.inl rfl)) (pgs_cons (pg_name (i := 12) sc__law_pasts_right.nd rfl (Or.inl rfl)) pgs_nil))) (fun _ _ _ _ _ => pts_one (pt_cmpR op_in_seq (pv 11) (pe_tup (pa_cons pe_str (pa_cons pe_str pa_nil))) (by rfl))) (fun _ _ _ _ _ => pv 12)) pa_nil))) (pss_cons (ps_set (i := 6) sc__law_pasts_right.nd rfl (Or.inl rfl) (pe_cx hr (by rfl) (pa_cons (pv 0) (pa_cons (pv 3) pa_nil)) (hm := T.hm_told_times))) (pss_cons (ps_setLc (i := 7) (own := [("_law_time", 13)]) rfl sc__law_pasts_right.nd rfl rfl (sw_true rfl rfl rfl (by decide +kernel)) (pi_seq (pv 6)) (blkOk_by (N := ["_law_row", "_law_twin", "_law_members_here", "_law_stream_here", "_law_late", "_law_other", "_law_times", "_law_events", "_law_begin", "_law_end", "_law_there", "_law_kind", "_law_number", "_law_time"]) (sc := defScope s__law_pasts_right) (by decide +kernel)) (fun _ _ _ _ _ => pg_name (i := 13) sc__law_pasts_right.nd rfl (Or.inl rfl)) (fun _ _ _ _ _ => pts_nil) (fun _ _ _ _ _ => pe_op op_sub (pv 13) (pv 4))) (pss_cons (ps_par (by rfl) sc__law_pasts_right.nd rfl rfl (by decide) rfl rfl (pa_cons (pe_op op_sub (pe_ix ix_seq (pv 3) pe_int (fun _ _ => rfl)) pe_int) (pa_cons (pe_op op_addX (pe_ix ix_seq (pv 3) (pe_un un_neg pe_int) (fun _ _ => rfl)) pe_int) pa_nil)) (by rfl)) (pss_cons (ps_setLc (i := 10) (own := [("_law_time", 13)]) rfl sc__law_pasts_right.nd rfl rfl (sw_true rfl rfl rfl (by decide +kernel)) (pi_seq (pe_revL (pv 7))) (blkOk_by (N := ["_law_row", "_law_twin", "_law_members_here", "_law_stream_here", "_law_late", "_law_other", "_law_times", "_law_events", "_law_begin", "_law_end", "_law_there", "_law_kind", "_law_number", "_law_time"]) (sc := defScope s__law_pasts_right) (by decide +kernel)) (fun _ _ _ _ _ => pg_name (i := 13) sc__law_pasts_right.nd rfl (Or.inl rfl)) (fun _ _ _ _ _ => pts_nil) (fun _ _ _ _ _ => pe_op op_sub (pv 5) (pv 13))) (pss_cons (ps_if (PW.pt (pw_or (pt_not (pt_truth (pe_cx hr (by rfl) (pa_cons (pv 0) (pa_cons (pv 6) pa_nil)) (hm := T.hm_can_tell)) (by intro _; rfl))) (pw_or1 (pt_not (pt_truth (pe_cx hr (by rfl) (pa_cons (pv 1) (pa_cons (pv 10) pa_nil)) (hm := T.hm_can_tell)) (by intro _; rfl)))))) (pss_one (ps_ret pe_bl)) pss_nil) (pss_one (ps_ret (pe_cmpR (op_eqX hr.units) (pe_cx hr (by rfl) (pa_cons (pv 0) (pa_cons (pv 6) (pa_cons (pv 8) (pa_cons (pv 9) pa_nil)))) (hm := T.hm_count_pasts)) (pe_cx hr (by rfl) (pa_cons (pv 1) (pa_cons (pv 10) (pa_cons (pe_op op_sub pe_int (pv 9)) (pa_cons (pe_op op_sub pe_int (pv 8)) pa_nil)))) (hm := T.hm_count_pasts)) (by rfl))))))))))
theorem sc__law_trains_right : FnScope ["_law_s", "_law_row", "_law_twin", "_law_members_here", "_law_head", "_law_block", "_law_end", "_law_gaps", "_law_turn", "_law_rounds", "_law_train", "_law_length", "_law_there", "_law_one", "_law_two", "_law_late", "_law_other", "_law_count", "_law_place", "_law_kind", "_law_number"] ["_law_s", "_law_row", "_law_twin", "_law_members_here"] (defScope s__law_trains_right) := ⟨rfl, rfl, rfl, by decide +kernel, rfl, by decide +kernel, by decide +kernel⟩
theorem b__law_trains_right (kV doc pm : Value) (an : Option Addr) (cdv ct : Value) (us : List Value) (hl : us.length = 4) : bindArgs (PySem.W.fnOf "_law_trains_right" "_law_trains_right" (defArgs s__law_trains_right) (defBody s__law_trains_right) (defScope s__law_trains_right) .none kV doc pm an cdv ct) ⟨us, []⟩ = pure ((["_law_s", "_law_row", "_law_twin", "_law_members_here"] : List Str).zip us) := match us, hl with | [_, _, _, _], _ => rfl
def t__law_trains_right (P : Program) (w : World) (K : PySem.W.Frag) (mg : Str → Option Value) (base : Heap) (j : Nat) : TS := tSeq (tPar3 4 5 6 (tCons (tLst tNil) (tCons (tLst tNil) (tCons (tLst tNil) tNil)))) (tSeq (tFor (iSeq K (tTup (tCons (tVar 4) (tCons (tVar 5) (tCons (tVar 6) tNil))))) (gName 7) (tFor (iRng1 (tCons (tOp (rAddX K) (tC (.int 1)) (tCallX P w K mg base j "_law_digit" (tCons (tVar 0) (tCons (tC (.int 3)) tNil)))) tNil)) (gName 8) (tDrop (tBM K "list" rAppend (tVar 7) (tCons (tOp (rAddX K) (tC (.int 1)) (tCallX P w K mg base j "_law_digit" (tCons (tVar 0) (tCons (tC (.int 9)) tNil)))) tNil))))) (tSeq (tAsg (tOp (rIx K) (tLst (tCons (tC (.int 1)) (tCons (tC (.int 3)) (tCons (tOp (rI CPow fun i j => .int (i ^ j.toNat)) (tC (.int 10)) (tC (.int 20))) tNil)))) (tCallX P w K mg base j "_law_digit" (tCons (tVar 0) (tCons (tC (.int 3)) tNil)))) (gName 9)) (tSeq (tAsg (tMakeX P w K mg base j "Train" (tCons (tC (.int 0)) (tCons (tVar 4) (tCons (tVar 5) (tCons (tVar 9) (tCons (tVar 6) tNil)))))) (gName 10)) (tSeq (tAsg (tOp (rAddX K) (tOp (rAddX K) (tCB (rSum K) (tCons (tVar 4) tNil)) (tOp rMulX (tVar 9) (tCB (rSum K) (tCons (tVar 5) tNil)))) (tCB (rSum K) (tCons (tVar 6) tNil))) (gName 11)) (tSeq (tAsg (tMakeX P w K mg base j "Train" (tCons (tOp (rI0 fun i j => .int (i - j)) (tC (.int 0)) (tVar 11)) (tCons (tRevL K (tVar 6)) (tCons (tRevL K (tVar 5)) (tCons (tVar 9) (tCons (tRevL K (tVar 4)) tNil)))))) (gName 12)) (tSeq (tPar 13 14 (tCons (tCallX P w K mg base j "train_told" (tCons (tVar 1) (tCons (tVar 10) tNil))) (tCons (tCallX P w K mg base j "train_told" (tCons (tVar 2) (tCons (tVar 12) tNil))) tNil))) (tSeq (tAsg (tCB (rSum K) (tCons (tLc (iSeq K (tVar 3)) (gTup K 2 (gCons (gName 19) (gCons (gName 20) gNil))) (tTest (tOp (rIn K false) (tVar 19) (tTup (tCons (tC (.str "last")) (tCons (tC (.str "delay")) tNil))))) (tVar 20) [19, 20]) tNil)) (gName 15)) (tSeq (tAsg (tCB (rSum K) (tCons (tLc (iSeq K (tVar 3)) (gTup K 2 (gCons (gName 19) (gCons (gName 20) gNil))) (tTest (tOp (rIn K false) (tVar 19) (tTup (tCons (tC (.str "first")) (tCons (tC (.str "delay")) tNil))))) (tVar 20) [19, 20]) tNil)) (gName 16)) (tSeq (tAsg (tCallX P w K mg base j "amount_of" (tCons (tVar 13) tNil)) (gName 17)) (tSeq (tIfS (tTest (tOp (rNeX K) (tCallX P w K mg base j "amount_of" (tCons (tVar 14) tNil)) (tVar 17))) (tRet (tC (.bl false))) tNext) (tSeq (tFor (iSeq K (tTup (tCons (tC (.int 0)) (tCons (tOp (rI CDivW fun i j => .int (i / j)) (tVar 17) (tC (.int 2))) (tCons (tOp (rI0 fun i j => .int (i - j)) (tVar 17) (tC (.int 1))) tNil))))) (gName 18) (tIfS (tTest (tOp (rNeX K) (tOp (rI0 fun i j => .int (i - j)) (tCallX P w K mg base j "event_at" (tCons (tVar 13) (tCons (tVar 18) tNil))) (tVar 15)) (tOp (rI0 fun i j => .int (i - j)) (tVar 16) (tCallX P w K mg base j "event_at" (tCons (tVar 14) (tCons (tOp (rI0 fun i j => .int (i - j)) (tOp (rI0 fun i j => .int (i - j)) (tVar 17) (tC (.int 1))) (tVar 18)) tNil)))))) (tRet (tC (.bl false))) tNext)) (tRet (tC (.bl true))))))))))))))
theorem d__law_trains_right {P : Program} {w : World} {K : PySem.W.Frag} {mg : Str → Option Value} {base : Heap} (T : Tx K mg) {j : Nat} {f : Addr} {cdv : Value} {A : Around} {outer : List Env} {s : Shared} {H : Hp} {E : XK} (hr : Room j (A.deeper (envOfC "_law_trains_right" (defScope s__law_trains_right) s.heap.objs.size f cdv))) :
    PSs (cxOf C0 P w K mg base ["_law_s", "_law_row", "_law_twin", "_law_members_here", "_law_head", "_law_block", "_law_end", "_law_gaps", "_law_turn", "_law_rounds", "_law_train", "_law_length", "_law_there", "_law_one", "_law_two", "_law_late", "_law_other", "_law_count", "_law_place", "_law_kind", "_law_number"] "_law_trains_right" (defScope s__law_trains_right) f cdv A outer s H E).nox (defBody s__law_trains_right) (t__law_trains_right P w K mg base j) := by
  exact pss_cons (ps_par3 (by rfl) sc__law_trains_right.nd rfl rfl rfl (by decide) (by decide) (by decide) rfl rfl rfl (pa_cons (pe_lst pa_nil) (pa_cons (pe_lst pa_nil) (pa_cons (pe_lst pa_nil) pa_nil))) (by rfl)) (pss_cons (ps_for PassesOwn.never rfl (pi_seq (pe_tup (pa_cons (pv 4) (pa_cons (pv 5) (pa_cons (pv 6) pa_nil))))) (pg_name (i := 7) sc__law_trains_right.nd rfl (Or.inl rfl)) (pss_one (ps_for PassesOwn.never rfl (pi_range1 (by rfl) T.free_range (pa_cons (pe_op op_addX pe_int (pe_cx hr (by rfl) (pa_cons (pv 0) (pa_cons pe_int pa_nil)) (hm := T.hm__law_digit))) pa_nil)) (pg_name (i := 8) sc__law_trains_right.nd rfl (Or.inl rfl)) (pss_one (ps_expr (pe_bm PySem.F.plainAttrs_list PySem.F.slot_list_append PySem.F.type_list_append mt_append (pv 7) (pa_cons (pe_op op_addX pe_int (pe_cx hr (by rfl) (pa_cons (pv 0) (pa_cons pe_int pa_nil)) (hm := T.hm__law_digit))) pa_nil))))))) (pss_cons (ps_set (i := 9) sc__law_trains_right.nd rfl (Or.inl rfl) (pe_ix ix_seq (pe_lst (pa_cons pe_int (pa_cons pe_int (pa_cons (pe_op op_pow pe_int pe_int) pa_nil)))) (pe_cx hr (by rfl) (pa_cons (pv 0) (pa_cons pe_int pa_nil)) (hm := T.hm__law_digit)) (fun _ _ => rfl))) (pss_cons (ps_set (i := 10) sc__law_trains_right.nd rfl (Or.inl rfl) (pe_kx hr (by rfl) (pa_cons pe_int (pa_cons (pv 4) (pa_cons (pv 5) (pa_cons (pv 9) (pa_cons (pv 6) pa_nil))))) (hm := T.hm_Train))) (pss_cons (ps_set (i := 11) sc__law_trains_right.nd rfl (Or.inl rfl) (pe_op op_addX (pe_op op_addX (pe_callB (cr_sum rfl) (by rfl) T.free_sum PyProof.Rows.boot_sum (pa_cons (pv 4) pa_nil)) (pe_op op_mulX (pv 9) (pe_callB (cr_sum rfl) (by rfl) T.free_sum PyProof.Rows.boot_sum (pa_cons (pv 5) pa_nil)))) (pe_callB (cr_sum rfl) (by rfl) T.free_sum PyProof.Rows.boot_sum (pa_cons (pv 6) pa_nil)))) (pss_cons (ps_set (i := 12) sc__law_trains_right.nd rfl (Or.inl rfl) (pe_kx hr (by rfl) (pa_cons (pe_op op_sub pe_int (pv 11)) (pa_cons (pe_revL (pv 6)) (pa_cons (pe_revL (pv 5)) (pa_cons (pv 9) (pa_cons (pe_revL (pv 4)) pa_nil))))) (hm := T.hm_Train))) (pss_cons (ps_par (by rfl) sc__law_trains_right.nd rfl rfl (by decide) rfl rfl (pa_cons (pe_cx hr (by rfl) (pa_cons (pv 1) (pa_cons (pv 10) pa_nil)) (hm := T.hm_train_told)) (pa_cons (pe_cx hr (by rfl) (pa_cons (pv 2) (pa_cons (pv 12) pa_nil)) (hm := T.hm_train_told)) pa_nil)) (by rfl)) (pss_cons (ps_set (i := 15) sc__law_trains_right.nd rfl (Or.inl rfl) (pe_callB (cr_sum rfl) (by rfl) T.free_sum PyProof.Rows.boot_sum (pa_cons (pe_lc (own := [("_law_kind", 19), ("_law_number", 20)]) rfl sc__law_trains_right.nd (pi_seq (pv 3)) (blkOk_by (N := ["_law_s", "_law_row", "_law_twin", "_law_members_here", "_law_head", "_law_block", "_law_end", "_law_gaps", "_law_turn", "_law_rounds", "_law_train", "_law_length", "_law_there", "_law_one", "_law_two", "_law_late", "_law_other", "_law_count", "_law_place", "_law_kind", "_law_number"]) (sc := defScope s__law_trains_right) (by decide +kernel)) (fun _ _ _ _ _ => pg_tup rfl (pgs_cons (pg_name (i := 19) sc__law_trains_right.nd rfl (Or.inl rfl)) (pgs_cons (pg_name (i := 20) sc__law_trains_right.nd rfl (Or.inl rfl)) pgs_nil))) (fun _ _ _ _ _ => pts_one (pt_cmpR op_in_seq (pv 19) (pe_tup (pa_cons pe_str (pa_cons pe_str pa_nil))) (by rfl))) (fun _ _ _ _ _ => pv 20)) pa_nil))) (pss_cons (ps_set (i := 16) sc__law_trains_right.nd rfl (Or.inl rfl) (pe_callB (cr_sum rfl) (by rfl) T.free_sum PyProof.Rows.boot_sum (pa_cons (pe_lc (own := [("_law_kind", 19), ("_law_number", 20)]) rfl sc__law_trains_right.nd (pi_seq (pv 3)) (blkOk_by (N := ["_law_s", "_law_row", "_law_twin", "_law_members_here", "_law_head", "_law_block", "_law_end", "_law_gaps", "_law_turn", "_law_rounds", "_law_train", "_law_length", "_law_there", "_law_one", "_law_two", "_law_late", "_law_other", "_law_count", "_law_place", "_law_kind", "_law_number"]) (sc := defScope s__law_trains_right) (by decide +kernel)) (fun _ _ _ _ _ => pg_tup rfl (pgs_cons (pg_name (i := 19) sc__law_trains_right.nd rfl (Or.inl rfl)) (pgs_cons (pg_name (i := 20) sc__law_trains_right.nd rfl (Or.inl rfl)) pgs_nil))) (fun _ _ _ _ _ => pts_one (pt_cmpR op_in_seq (pv 19) (pe_tup (pa_cons pe_str (pa_cons pe_str pa_nil))) (by rfl))) (fun _ _ _ _ _ => pv 20)) pa_nil))) (pss_cons (ps_set (i := 17) sc__law_trains_right.nd rfl (Or.inl rfl) (pe_cx hr (by rfl) (pa_cons (pv 13) pa_nil) (hm := T.hm_amount_of))) (pss_cons (ps_if (pt_cmpR (op_neX hr.units) (pe_cx hr (by rfl) (pa_cons (pv 14) pa_nil) (hm := T.hm_amount_of)) (pv 17) (by rfl)) (pss_one (ps_ret pe_bl)) pss_nil) (pss_cons (ps_for PassesOwn.never rfl (pi_seq (pe_tup (pa_cons pe_int (pa_cons (pe_op op_fdivW (pv 17) pe_int) (pa_cons (pe_op op_sub (pv 17) pe_int) pa_nil))))) (pg_name (i := 18) sc__law_trains_right.nd rfl (Or.inl rfl)) (pss_one (ps_if (pt_cmpR (op_neX hr.units) (pe_op op_sub (pe_cx hr (by rfl) (pa_cons (pv 13) (pa_cons (pv 18) pa_nil)) (hm := T.hm_event_at)) (pv 15)) (pe_op op_sub (pv 16) (pe_cx hr (by rfl) (pa_cons (pv 14) (pa_cons (pe_op op_sub (pe_op op_sub (pv 17) pe_int) (pv 18)) pa_nil)) (hm := T.hm_event_at))) (by rfl)) (pss_one (ps_ret pe_bl)) pss_nil))) (pss_one (ps_ret pe_bl)))))))))))))
theorem sc__law_is_plain : FnScope ["_law_form", "_law_kind", "_law_record"] ["_law_form", "_law_kind"] (defScope s__law_is_plain) := ⟨rfl, rfl, rfl, by decide +kernel, rfl, by decide +kernel, by decide +kernel⟩
theorem b__law_is_plain (kV doc pm : Value) (an : Option Addr) (cdv ct : Value) (us : List Value) (hl : us.length = 2) : bindArgs (PySem.W.fnOf "_law_is_plain" "_law_is_plain" (defArgs s__law_is_plain) (defBody s__law_is_plain) (defScope s__law_is_plain) .none kV doc pm an cdv ct) ⟨us, []⟩ = pure ((["_law_form", "_law_kind"] : List Str).zip us) := match us, hl with | [_, _], _ => rfl
def t__law_is_plain (P : Program) (w : World) (K : PySem.W.Frag) (mg : Str → Option Value) (base : Heap) (j : Nat) : TS := tRet (tOp (rEqX K) (tLc (iSeq K (tFld K (tVar 0) "records")) (gName 2) (tTest (tOp (rNeX K) (tOp (rIx K) (tVar 2) (tC (.int 0))) (tVar 1))) (tVar 2) [2]) (tLst tNil))
theorem d__law_is_plain {P : Program} {w : World} {K : PySem.W.Frag} {mg : Str → Option Value} {base : Heap} (T : Tx K mg) {j : Nat} {f : Addr} {cdv : Value} {A : Around} {outer : List Env} {s : Shared} {H : Hp} {E : XK} (hr : Room j (A.deeper (envOfC "_law_is_plain" (defScope s__law_is_plain) s.heap.objs.size f cdv))) :
    PSs (cxOf C0 P w K mg base ["_law_form", "_law_kind", "_law_record"] "_law_is_plain" (defScope s__law_is_plain) f cdv A outer s H E).nox (defBody s__law_is_plain) (t__law_is_plain P w K mg base j) := by
  exact pss_one (ps_ret (pe_cmpR (op_eqX hr.units) (pe_lc (own := [("_law_record", 2)]) rfl sc__law_is_plain.nd (pi_seq (pe_fld (pv 0) rfl)) (blkOk_by (N := ["_law_form", "_law_kind", "_law_record"]) (sc := defScope s__law_is_plain) (by decide +kernel)) (fun _ _ _ _ _ => pg_name (i := 2) sc__law_is_plain.nd rfl (Or.inl rfl)) (fun _ _ _ _ _ => pts_one (pt_cmpR (op_neX hr.units) (pe_ix ix_seq (pv 2) pe_int (fun _ _ => rfl)) (pv 1) (by rfl))) (fun _ _ _ _ _ => pv 2)) (pe_lst pa_nil) (by rfl)))
theorem sc__law_pairs_right : FnScope ["_law_one", "_law_other", "_law_is_like", "_law_kind"] ["_law_one", "_law_other"] (defScope s__law_pairs_right) := ⟨rfl, rfl, rfl, by decide +kernel, rfl, by decide +kernel, by decide +kernel⟩
theorem b__law_pairs_right (kV doc pm : Value) (an : Option Addr) (cdv ct : Value) (us : List Value) (hl : us.length = 2) : bindArgs (PySem.W.fnOf "_law_pairs_right" "_law_pairs_right" (defArgs s__law_pairs_right) (defBody s__law_pairs_right) (defScope s__law_pairs_right) .none kV doc pm an cdv ct) ⟨us, []⟩ = pure ((["_law_one", "_law_other"] : List Str).zip us) := match us, hl with | [_, _], _ => rfl
def t__law_pairs_right (P : Program) (w : World) (K : PySem.W.Frag) (mg : Str → Option Value) (base : Heap) (j : Nat) : TS := tSeq (tAsg (tOp (rEqX K) (tFld K (tCallX P w K mg base j "normal_form" (tCons (tOp (rIx K) (tVar 0) (tC (.int 0))) tNil)) "records") (tFld K (tCallX P w K mg base j "normal_form" (tCons (tOp (rIx K) (tVar 1) (tC (.int 0))) tNil)) "records")) (gName 2)) (tSeq (tIfS (tTest (tOp (rNeX K) (tVar 2) (tOp (rEqX K) (tFld K (tCallX P w K mg base j "normal_form" (tCons (tOp (rIx K) (tVar 0) (tC (.int 1))) tNil)) "records") (tFld K (tCallX P w K mg base j "normal_form" (tCons (tOp (rIx K) (tVar 1) (tC (.int 1))) tNil)) "records")))) (tRet (tC (.bl false))) tNext) (tSeq (tIfS (tTest (tOp (rNeX K) (tOp rIsN (tCallX P w K mg base j "parting" (tCons (tOp (rIx K) (tVar 0) (tC (.int 0))) (tCons (tOp (rIx K) (tVar 1) (tC (.int 0))) tNil))) (tC .non)) (tCallX P w K mg base j "same_rows" (tCons (tOp (rIx K) (tVar 0) (tC (.int 0))) (tCons (tOp (rIx K) (tVar 1) (tC (.int 0))) tNil))))) (tRet (tC (.bl false))) tNext) (tSeq (tAsg (tIf (tTruV K (tCallX P w K mg base j "_law_is_plain" (tCons (tCallX P w K mg base j "normal_form" (tCons (tOp (rIx K) (tVar 0) (tC (.int 0))) tNil)) (tCons (tC (.str "last")) tNil)))) (tC (.str "last")) (tC (.str "first"))) (gName 3)) (tSeq (tIfS (tAnd (tTruV K (tCallX P w K mg base j "_law_is_plain" (tCons (tCallX P w K mg base j "normal_form" (tCons (tOp (rIx K) (tVar 0) (tC (.int 0))) tNil)) (tCons (tVar 3) tNil)))) (tTruV K (tCallX P w K mg base j "_law_is_plain" (tCons (tCallX P w K mg base j "normal_form" (tCons (tOp (rIx K) (tVar 1) (tC (.int 0))) tNil)) (tCons (tVar 3) tNil))))) (tRet (tOp (rEqX K) (tCallX P w K mg base j "is_contained" (tCons (tOp (rIx K) (tVar 0) (tC (.int 0))) (tCons (tOp (rIx K) (tVar 1) (tC (.int 0))) tNil))) (tCallX P w K mg base j "is_contained" (tCons (tOp (rIx K) (tVar 0) (tC (.int 1))) (tCons (tOp (rIx K) (tVar 1) (tC (.int 1))) tNil))))) tNext) (tRet (tC (.bl true)))))))
theorem d__law_pairs_right {P : Program} {w : World} {K : PySem.W.Frag} {mg : Str → Option Value} {base : Heap} (T : Tx K mg) {j : Nat} {f : Addr} {cdv : Value} {A : Around} {outer : List Env} {s : Shared} {H : Hp} {E : XK} (hr : Room j (A.deeper (envOfC "_law_pairs_right" (defScope s__law_pairs_right) s.heap.objs.size f cdv))) :
    PSs (cxOf C0 P w K mg base ["_law_one", "_law_other", "_law_is_like", "_law_kind"] "_law_pairs_right" (defScope s__law_pairs_right) f cdv A outer s H E).nox (defBody s__law_pairs_right) (t__law_pairs_right P w K mg base j) := by
  exact pss_cons (ps_set (i := 2) sc__law_pairs_right.nd rfl (Or.inl rfl) (pe_cmpR (op_eqX hr.units) (pe_fld (pe_cx hr (by rfl) (pa_cons (pe_ix ix_seq (pv 0) pe_int (fun _ _ => rfl)) pa_nil) (hm := T.hm_normal_form)) rfl) (pe_fld (pe_cx hr (by rfl) (pa_cons (pe_ix ix_seq (pv 1) pe_int (fun _ _ => rfl)) pa_nil) (hm := T.hm_normal_form)) rfl) (by rfl))) (pss_cons (ps_if (pt_cmpR (op_neX hr.units) (pv 2) (pe_cmpR (op_eqX hr.units) (pe_fld (pe_cx hr (by rfl) (pa_cons (pe_ix ix_seq (pv 0) pe_int (fun _ _ => rfl)) pa_nil) (hm := T.hm_normal_form)) rfl) (pe_fld (pe_cx hr (by rfl) (pa_cons (pe_ix ix_seq (pv 1) pe_int (fun _ _ => rfl)) pa_nil) (hm := T.hm_normal_form)) rfl) (by rfl)) (by rfl)) (pss_one (ps_ret pe_bl)) pss_nil) (pss_cons (ps_if (pt_cmpR (op_neX hr.units) (pe_cmpR op_isN1 (pe_cx hr (by rfl) (pa_cons (pe_ix ix_seq (pv 0) pe_int (fun _ _ => rfl)) (pa_cons (pe_ix ix_seq (pv 1) pe_int (fun _ _ => rfl)) pa_nil)) (hm := T.hm_parting)) pe_non (by rfl)) (pe_cx hr (by rfl) (pa_cons (pe_ix ix_seq (pv 0) pe_int (fun _ _ => rfl)) (pa_cons (pe_ix ix_seq (pv 1) pe_int (fun _ _ => rfl)) pa_nil)) (hm := T.hm_same_rows)) (by rfl)) (pss_one (ps_ret pe_bl)) pss_nil) (pss_cons (ps_set (i := 3) sc__law_pairs_right.nd rfl (Or.inl rfl) (pe_ifExp (pt_truth (pe_cx hr (by rfl) (pa_cons (pe_cx hr (by rfl) (pa_cons (pe_ix ix_seq (pv 0) pe_int (fun _ _ => rfl)) pa_nil) (hm := T.hm_normal_form)) (pa_cons pe_str pa_nil)) (hm := T.hm__law_is_plain)) (by intro _; rfl)) pe_str pe_str)) (pss_cons (ps_if (PW.pt (pw_and (pt_truth (pe_cx hr (by rfl) (pa_cons (pe_cx hr (by rfl) (pa_cons (pe_ix ix_seq (pv 0) pe_int (fun _ _ => rfl)) pa_nil) (hm := T.hm_normal_form)) (pa_cons (pv 3) pa_nil)) (hm := T.hm__law_is_plain)) (by intro _; rfl)) (pw_and1 (pt_truth (pe_cx hr (by rfl) (pa_cons (pe_cx hr (by rfl) (pa_cons (pe_ix ix_seq (pv 1) pe_int (fun _ _ => rfl)) pa_nil) (hm := T.hm_normal_form)) (pa_cons (pv 3) pa_nil)) (hm := T.hm__law_is_plain)) (by intro _; rfl))))) (pss_one (ps_ret (pe_cmpR (op_eqX hr.units) (pe_cx hr (by rfl) (pa_cons (pe_ix ix_seq (pv 0) pe_int (fun _ _ => rfl)) (pa_cons (pe_ix ix_seq (pv 1) pe_int (fun _ _ => rfl)) pa_nil)) (hm := T.hm_is_contained)) (pe_cx hr (by rfl) (pa_cons (pe_ix ix_seq (pv 0) pe_int (fun _ _ => rfl)) (pa_cons (pe_ix ix_seq (pv 1) pe_int (fun _ _ => rfl)) pa_nil)) (hm := T.hm_is_contained)) (by rfl)))) pss_nil) (pss_one (ps_ret pe_bl))))))
theorem sc_law : FnScope ["_law_script", "_law_cell", "_law_s", "_law_members_here", "_law_some_here", "_law_row", "_law_twin", "_law_form", "_law_mirror", "_law_other", "_law_turn", "_law_stream_here", "_law_numbers", "_law_turned_here", "_law_there", "_law_one", "_law_number", "_law_time"] ["_law_script"] (defScope s_law) := ⟨rfl, rfl, rfl, by decide +kernel, rfl, by decide +kernel, by decide +kernel⟩
theorem b_law (kV doc pm : Value) (an : Option Addr) (cdv ct : Value) (us : List Value) (hl : us.length = 1) : bindArgs (PySem.W.fnOf "law" "law" (defArgs s_law) (defBody s_law) (defScope s_law) .none kV doc pm an cdv ct) ⟨us, []⟩ = pure ((["_law_script"] : List Str).zip us) := match us, hl with | [_], _ => rfl
def t_law (P : Program) (w : World) (K : PySem.W.Frag) (mg : Str → Option Value) (base : Heap) (j : Nat) : TS := tSeq (tFor (iSeq K (tSl (rSlX K) (tOp (rAddX K) (tVar 0) (tLst (tCons (tC (.int 0)) tNil))) tNoPart (tPart (tC (.int 3))))) (gName 1) (tSeq (tAsg (tCallX P w K mg base j "_law_state" (tCons (tVar 1) tNil)) (gName 2)) (tSeq (tPar 3 4 (tCons (tCallX P w K mg base j "_law_some" (tCons (tVar 2) tNil)) (tCons (tCallX P w K mg base j "_law_some" (tCons (tVar 2) tNil)) tNil))) (tSeq (tPar 5 6 (tCons (tMakeX P w K mg base j "Row" (tCons (tCallX P w K mg base j "_law_made" (tCons (tVar 3) tNil)) tNil)) (tCons (tMakeX P w K mg base j "Row" (tCons (tCallX P w K mg base j "_law_made" (tCons (tCallX P w K mg base j "_law_turned" (tCons (tVar 3) tNil)) tNil)) tNil)) tNil))) (tSeq (tPar 7 8 (tCons (tCallX P w K mg base j "normal_form" (tCons (tVar 5) tNil)) (tCons (tCallX P w K mg base j "normal_form" (tCons (tVar 6) tNil)) tNil))) (tSeq (tIfS (tOr (tTest (tOp (rNeX K) (tCB (rListA K) (tCons (tFld K (tVar 8) "records") tNil)) (tCallX P w K mg base j "_law_turned" (tCons (tFld K (tVar 7) "records") tNil)))) (tTest (tOp (rNeX K) (tCallX P w K mg base j "idle_members" (tCons (tVar 5) tNil)) (tCallX P w K mg base j "idle_members" (tCons (tVar 6) tNil))))) (tRet (tC (.bl false))) tNext) (tSeq (tAsg (tTup (tCons (tMakeX P w K mg base j "Row" (tCons (tCallX P w K mg base j "_law_made" (tCons (tVar 4) tNil)) tNil)) (tCons (tMakeX P w K mg base j "Row" (tCons (tCallX P w K mg base j "_law_made" (tCons (tCallX P w K mg base j "_law_turned" (tCons (tVar 4) tNil)) tNil)) tNil)) tNil))) (gName 9)) (tSeq (tIfS (tNot (tTruV K (tCallX P w K mg base j "_law_pairs_right" (tCons (tTup (tCons (tVar 5) (tCons (tVar 6) tNil))) (tCons (tVar 9) tNil))))) (tRet (tC (.bl false))) tNext) (tSeq (tFor (iRng1 (tCons (tC (.int 3)) tNil)) (gName 10) (tSeq (tAsg (tCallX P w K mg base j "_law_stream" (tCons (tVar 2) (tCons (tC (.int 12)) (tCons (tLst (tCons (tC (.int 1)) (tCons (tC (.int 2)) (tCons (tC (.int 3)) (tCons (tC (.int 4)) (tCons (tC (.int 5)) (tCons (tOp (rAddX K) (tC (.int 1)) (tCallX P w K mg base j "_law_digit" (tCons (tVar 2) (tCons (tC (.int 12)) tNil)))) tNil))))))) tNil)))) (gName 11)) (tSeq (tIfS (tNot (tTruV K (tCallX P w K mg base j "_law_numbers_right" (tCons (tVar 5) (tCons (tVar 6) (tCons (tVar 11) tNil)))))) (tRet (tC (.bl false))) tNext) (tIfS (tAnd (tTest (tOp (rNeX K) (tVar 11) (tLst tNil))) (tNot (tTruV K (tCallX P w K mg base j "_law_pasts_right" (tCons (tVar 5) (tCons (tVar 6) (tCons (tVar 3) (tCons (tVar 11) tNil)))))))) (tRet (tC (.bl false))) tNext)))) (tSeq (tAsg (tLc (iSeq K (tCallX P w K mg base j "told_events" (tCons (tVar 5) (tCons (tSl (rSlX K) (tVar 11) tNoPart (tPart (tC (.int 8)))) tNil)))) (gName 15) tYes (tFld K (tVar 15) "number") [15]) (gName 12)) (tSeq (tAsg (tLc (iSeq K (tRevL K (tVar 12))) (gName 16) tYes (tOp (rI0 fun i j => .int (i - j)) (tOp (rI0 fun i j => .int (i - j)) (tCB (rLenA K) (tCons (tSl (rSlX K) (tVar 11) tNoPart (tPart (tC (.int 8)))) tNil)) (tC (.int 1))) (tVar 16)) [16]) (gName 13)) (tSeq (tAsg (tLc (iSeq K (tRevL K (tSl (rSlX K) (tVar 11) tNoPart (tPart (tC (.int 8)))))) (gName 17) tYes (tOp (rI0 fun i j => .int (i - j)) (tC (.int 0)) (tVar 17)) [17]) (gName 14)) (tSeq (tIfS (tOr (tTest (tOp (rI0 fun i j => .bl (decide (i < j))) (tCallX P w K mg base j "count_leading" (tCons (tSl (rSlX K) (tVar 11) tNoPart (tPart (tC (.int 8)))) (tCons (tVar 12) (tCons (tC (.int 13)) tNil)))) (tC (.int 1)))) (tTest (tOp (rI0 fun i j => .bl (decide (i < j))) (tCallX P w K mg base j "count_leading" (tCons (tVar 14) (tCons (tVar 13) (tCons (tC (.int 13)) tNil)))) (tC (.int 1))))) (tRet (tC (.bl false))) tNext) (tIfS (tNot (tTruV K (tCallX P w K mg base j "_law_trains_right" (tCons (tVar 2) (tCons (tVar 5) (tCons (tVar 6) (tCons (tVar 3) tNil))))))) (tRet (tC (.bl false))) tNext)))))))))))))) (tRet (tC (.bl true)))
theorem d_law {P : Program} {w : World} {K : PySem.W.Frag} {mg : Str → Option Value} {base : Heap} (T : Tx K mg) {j : Nat} {f : Addr} {cdv : Value} {A : Around} {outer : List Env} {s : Shared} {H : Hp} {E : XK} (hr : Room j (A.deeper (envOfC "law" (defScope s_law) s.heap.objs.size f cdv))) :
    PSs (cxOf C0 P w K mg base ["_law_script", "_law_cell", "_law_s", "_law_members_here", "_law_some_here", "_law_row", "_law_twin", "_law_form", "_law_mirror", "_law_other", "_law_turn", "_law_stream_here", "_law_numbers", "_law_turned_here", "_law_there", "_law_one", "_law_number", "_law_time"] "law" (defScope s_law) f cdv A outer s H E).nox (defBody s_law) (t_law P w K mg base j) := by
  exact pss_cons (ps_for PassesOwn.never rfl (pi_seq (pe_slice sl_X (pe_op op_addX (pv 0) (pe_lst (pa_cons pe_int pa_nil))) po_none (po_some pe_int))) (pg_name (i := 1) sc_law.nd rfl (Or.inl rfl)) (pss_cons (ps_set (i := 2) sc_law.nd rfl (Or.inl rfl) (pe_cx hr (by rfl) (pa_cons (pv 1) pa_nil) (hm := T.hm__law_state))) (pss_cons (ps_par (by rfl) sc_law.nd rfl rfl (by decide) rfl rfl (pa_cons (pe_cx hr (by rfl) (pa_cons (pv 2) pa_nil) (hm := T.hm__law_some)) (pa_cons (pe_cx hr (by rfl) (pa_cons (pv 2) pa_nil) (hm := T.hm__law_some)) pa_nil)) (by rfl)) (pss_cons (ps_par (by rfl) sc_law.nd rfl rfl (by decide) rfl rfl (pa_cons (pe_kx hr (by rfl) (pa_cons (pe_cx hr (by rfl) (pa_cons (pv 3) pa_nil) (hm := T.hm__law_made)) pa_nil) (hm := T.hm_Row)) (pa_cons (pe_kx hr (by rfl) (pa_cons (pe_cx hr (by rfl) (pa_cons (pe_cx hr (by rfl) (pa_cons (pv 3) pa_nil) (hm := T.hm__law_turned)) pa_nil) (hm := T.hm__law_made)) pa_nil) (hm := T.hm_Row)) pa_nil)) (by rfl)) (pss_cons (ps_par (by rfl) sc_law.nd rfl rfl (by decide) rfl rfl (pa_cons (pe_cx hr (by rfl) (pa_cons (pv 5) pa_nil) (hm := T.hm_normal_form)) (pa_cons (pe_cx hr (by rfl) (pa_cons (pv 6) pa_nil) (hm := T.hm_normal_form)) pa_nil)) (by rfl)) (pss_cons (ps_if (PW.pt (pw_or (pt_cmpR (op_neX hr.units) (pe_callTy call_list_of (by rfl) T.free_list PyProof.Rows.boot_list (pa_cons (pe_fld (pv 8) rfl) pa_nil)) (pe_cx hr (by rfl) (pa_cons (pe_fld (pv 7) rfl) pa_nil) (hm := T.hm__law_turned)) (by rfl)) (pw_or1 (pt_cmpR (op_neX hr.units) (pe_cx hr (by rfl) (pa_cons (pv 5) pa_nil) (hm := T.hm_idle_members)) (pe_cx hr (by rfl) (pa_cons (pv 6) pa_nil) (hm := T.hm_idle_members)) (by rfl))))) (pss_one (ps_ret pe_bl)) pss_nil) (pss_cons (ps_set (i := 9) sc_law.nd rfl (Or.inl rfl) (pe_tup (pa_cons (pe_kx hr (by rfl) (pa_cons (pe_cx hr (by rfl) (pa_cons (pv 4) pa_nil) (hm := T.hm__law_made)) pa_nil) (hm := T.hm_Row)) (pa_cons (pe_kx hr (by rfl) (pa_cons (pe_cx hr (by rfl) (pa_cons (pe_cx hr (by rfl) (pa_cons (pv 4) pa_nil) (hm := T.hm__law_turned)) pa_nil) (hm := T.hm__law_made)) pa_nil) (hm := T.hm_Row)) pa_nil)))) (pss_cons (ps_if (pt_not (pt_truth (pe_cx hr (by rfl) (pa_cons (pe_tup (pa_cons (pv 5) (pa_cons (pv 6) pa_nil))) (pa_cons (pv 9) pa_nil)) (hm := T.hm__law_pairs_right)) (by intro _; rfl))) (pss_one (ps_ret pe_bl)) pss_nil) (pss_cons (ps_for PassesOwn.never rfl (pi_range1 (by rfl) T.free_range (pa_cons pe_int pa_nil)) (pg_name (i := 10) sc_law.nd rfl (Or.inl rfl)) (pss_cons (ps_set (i := 11) sc_law.nd rfl (Or.inr rfl) (pe_cx hr (by rfl) (pa_cons (pv 2) (pa_cons pe_int (pa_cons (pe_lst (pa_cons pe_int (pa_cons pe_int (pa_cons pe_int (pa_cons pe_int (pa_cons pe_int (pa_cons (pe_op op_addX pe_int (pe_cx hr (by rfl) (pa_cons (pv 2) (pa_cons pe_int pa_nil)) (hm := T.hm__law_digit))) pa_nil))))))) pa_nil))) (hm := T.hm__law_stream))) (pss_cons (ps_if (pt_not (pt_truth (pe_cx hr (by rfl) (pa_cons (pv 5) (pa_cons (pv 6) (pa_cons (pv 11) pa_nil))) (hm := T.hm__law_numbers_right)) (by intro _; rfl))) (pss_one (ps_ret pe_bl)) pss_nil) (pss_one (ps_if (PW.pt (pw_and (pt_cmpR (op_neX hr.units) (pv 11) (pe_lst pa_nil) (by rfl)) (pw_and1 (pt_not (pt_truth (pe_cx hr (by rfl) (pa_cons (pv 5) (pa_cons (pv 6) (pa_cons (pv 3) (pa_cons (pv 11) pa_nil)))) (hm := T.hm__law_pasts_right)) (by intro _; rfl)))))) (pss_one (ps_ret pe_bl)) pss_nil))))) (pss_cons (ps_setLc (i := 12) (own := [("_law_one", 15)]) rfl sc_law.nd rfl rfl (sw_true rfl rfl rfl (by decide +kernel)) (pi_seq (pe_cx hr (by rfl) (pa_cons (pv 5) (pa_cons (pe_slice sl_X (pv 11) po_none (po_some pe_int)) pa_nil)) (hm := T.hm_told_events))) (blkOk_by (N := ["_law_script", "_law_cell", "_law_s", "_law_members_here", "_law_some_here", "_law_row", "_law_twin", "_law_form", "_law_mirror", "_law_other", "_law_turn", "_law_stream_here", "_law_numbers", "_law_turned_here", "_law_there", "_law_one", "_law_number", "_law_time"]) (sc := defScope s_law) (by decide +kernel)) (fun _ _ _ _ _ => pg_name (i := 15) sc_law.nd rfl (Or.inl rfl)) (fun _ _ _ _ _ => pts_nil) (fun _ _ _ _ _ => pe_fld (pv 15) rfl)) (pss_cons (ps_setLc (i := 13) (own := [("_law_number", 16)]) rfl sc_law.nd rfl rfl (sw_true rfl rfl rfl (by decide +kernel)) (pi_seq (pe_revL (pv 12))) (blkOk_by (N := ["_law_script", "_law_cell", "_law_s", "_law_members_here", "_law_some_here", "_law_row", "_law_twin", "_law_form", "_law_mirror", "_law_other", "_law_turn", "_law_stream_here", "_law_numbers", "_law_turned_here", "_law_there", "_law_one", "_law_number", "_law_time"]) (sc := defScope s_law) (by decide +kernel)) (fun _ _ _ _ _ => pg_name (i := 16) sc_law.nd rfl (Or.inl rfl)) (fun _ _ _ _ _ => pts_nil) (fun _ _ _ _ _ => pe_op op_sub (pe_op op_sub (pe_callB call_len_seq (by rfl) T.free_len PySem.boot_len (pa_cons (pe_slice sl_X (pv 11) po_none (po_some pe_int)) pa_nil)) pe_int) (pv 16))) (pss_cons (ps_setLc (i := 14) (own := [("_law_time", 17)]) rfl sc_law.nd rfl rfl (sw_true rfl rfl rfl (by decide +kernel)) (pi_seq (pe_revL (pe_slice sl_X (pv 11) po_none (po_some pe_int)))) (blkOk_by (N := ["_law_script", "_law_cell", "_law_s", "_law_members_here", "_law_some_here", "_law_row", "_law_twin", "_law_form", "_law_mirror", "_law_other", "_law_turn", "_law_stream_here", "_law_numbers", "_law_turned_here", "_law_there", "_law_one", "_law_number", "_law_time"]) (sc := defScope s_law) (by decide +kernel)) (fun _ _ _ _ _ => pg_name (i := 17) sc_law.nd rfl (Or.inl rfl)) (fun _ _ _ _ _ => pts_nil) (fun _ _ _ _ _ => pe_op op_sub pe_int (pv 17))) (pss_cons (ps_if (PW.pt (pw_or (pt_cmpR op_lt (pe_cx hr (by rfl) (pa_cons (pe_slice sl_X (pv 11) po_none (po_some pe_int)) (pa_cons (pv 12) (pa_cons pe_int pa_nil))) (hm := T.hm_count_leading)) pe_int (by rfl)) (pw_or1 (pt_cmpR op_lt (pe_cx hr (by rfl) (pa_cons (pv 14) (pa_cons (pv 13) (pa_cons pe_int pa_nil))) (hm := T.hm_count_leading)) pe_int (by rfl))))) (pss_one (ps_ret pe_bl)) pss_nil) (pss_one (ps_if (pt_not (pt_truth (pe_cx hr (by rfl) (pa_cons (pv 2) (pa_cons (pv 5) (pa_cons (pv 6) (pa_cons (pv 3) pa_nil)))) (hm := T.hm__law_trains_right)) (by intro _; rfl))) (pss_one (ps_ret pe_bl)) pss_nil))))))))))))))) (pss_one (ps_ret pe_bl))
end Qr

/-! #### Qdf -/
set_option maxHeartbeats 4000000
/-! Derivations. Printed by gen2.py. -/
namespace Qr
open PySem PySem.Spec PyProof.Rows L2

theorem sc_same_rows : FnScope ["row", "other"] ["row", "other"] (defScope s_same_rows) := ⟨rfl, rfl, rfl, by decide +kernel, rfl, by decide +kernel, by decide +kernel⟩
theorem b_same_rows (kV doc pm : Value) (an : Option Addr) (cdv ct : Value) (us : List Value) (hl : us.length = 2) : bindArgs (PySem.W.fnOf "same_rows" "same_rows" (defArgs s_same_rows) (defBody s_same_rows) (defScope s_same_rows) .none kV doc pm an cdv ct) ⟨us, []⟩ = pure ((["row", "other"] : List Str).zip us) := match us, hl with | [_, _], _ => rfl
def t_same_rows (P : Program) (w : World) (K : PySem.W.Frag) (mg : Str → Option Value) (base : Heap) (j : Nat) : TS := tRet (tOp (rEqO P w K mg base j) (tCallX P w K mg base j "normal_form" (tCons (tVar 0) tNil)) (tCallX P w K mg base j "normal_form" (tCons (tVar 1) tNil)))
theorem d_same_rows {P : Program} {w : World} {K : PySem.W.Frag} {mg : Str → Option Value} {base : Heap} (T : Tx K mg) {j : Nat} {f : Addr} {cdv : Value} {A : Around} {outer : List Env} {s : Shared} {H : Hp} {E : XK} (hr : Room j (A.deeper (envOfC "same_rows" (defScope s_same_rows) s.heap.objs.size f cdv))) :
    PSs (cxOf C0 P w K mg base ["row", "other"] "same_rows" (defScope s_same_rows) f cdv A outer s H E).nox (defBody s_same_rows) (t_same_rows P w K mg base j) := by
  exact pss_one (ps_ret (pe_cmpR (op_eqO hr) (pe_cx hr (by rfl) (pa_cons (pv 0) pa_nil) (hm := T.hm_normal_form)) (pe_cx hr (by rfl) (pa_cons (pv 1) pa_nil) (hm := T.hm_normal_form)) (by rfl)))
theorem sc_is_contained : FnScope ["row", "other", "mine", "theirs", "kinds", "kind", "quiet"] ["row", "other"] (defScope s_is_contained) := ⟨rfl, rfl, rfl, by decide +kernel, rfl, by decide +kernel, by decide +kernel⟩
theorem b_is_contained (kV doc pm : Value) (an : Option Addr) (cdv ct : Value) (us : List Value) (hl : us.length = 2) : bindArgs (PySem.W.fnOf "is_contained" "is_contained" (defArgs s_is_contained) (defBody s_is_contained) (defScope s_is_contained) .none kV doc pm an cdv ct) ⟨us, []⟩ = pure ((["row", "other"] : List Str).zip us) := match us, hl with | [_, _], _ => rfl
def t_is_contained (P : Program) (w : World) (K : PySem.W.Frag) (mg : Str → Option Value) (base : Heap) (j : Nat) : TS := tSeq (tPar 2 3 (tCons (tCB (rListA K) (tCons (tCallX P w K mg base j "records_of" (tCons (tVar 0) tNil)) tNil)) (tCons (tCB (rListA K) (tCons (tCallX P w K mg base j "records_of" (tCons (tVar 1) tNil)) tNil)) tNil))) (tSeq (tAsg (tCB (rSortX w P) (tCons (tCB (rSetX K w P) (tCons (tLc (iSeq K (tOp (rAddX K) (tVar 2) (tVar 3))) (gTup K 2 (gCons (gName 5) (gCons (gName 6) gNil))) tYes (tVar 5) [5, 6]) tNil)) tNil)) (gName 4)) (tSeq (tIfS (tTest (tOp (rNotInX K) (tVar 4) (tTup (tCons (tLst tNil) (tCons (tLst (tCons (tC (.str "last")) tNil)) (tCons (tLst (tCons (tC (.str "first")) tNil)) tNil)))))) tNever tNext) (tSeq (tWhile (tAnd (tTest (tOp (rNeX K) (tVar 2) (tLst tNil))) (tAnd (tTest (tOp (rNeX K) (tVar 3) (tLst tNil))) (tTest (tOp (rEqX K) (tOp (rIx K) (tVar 2) (tC (.int 0))) (tOp (rIx K) (tVar 3) (tC (.int 0))))))) (tPar 2 3 (tCons (tSl (rSlX K) (tVar 2) (tPart (tC (.int 1))) tNoPart) (tCons (tSl (rSlX K) (tVar 3) (tPart (tC (.int 1))) tNoPart) tNil)))) (tRet (tOrV (tOp (rEqX K) (tVar 3) (tLst tNil)) (tAndV (tOp (rNeX K) (tVar 2) (tLst tNil)) (tOp (rI0 fun i j => .bl (decide (j ≤ i))) (tOp (rIx K) (tOp (rIx K) (tVar 2) (tC (.int 0))) (tC (.int 1))) (tOp (rIx K) (tOp (rIx K) (tVar 3) (tUn (rU fun i => .int (-i)) (tC (.int 1)))) (tC (.int 1))))))))))
theorem d_is_contained {P : Program} {w : World} {K : PySem.W.Frag} {mg : Str → Option Value} {base : Heap} (T : Tx K mg) {j : Nat} {f : Addr} {cdv : Value} {A : Around} {outer : List Env} {s : Shared} {H : Hp} {E : XK} (hr : Room j (A.deeper (envOfC "is_contained" (defScope s_is_contained) s.heap.objs.size f cdv))) :
    PSs (cxOf C0 P w K mg base ["row", "other", "mine", "theirs", "kinds", "kind", "quiet"] "is_contained" (defScope s_is_contained) f cdv A outer s H E).nox (defBody s_is_contained) (t_is_contained P w K mg base j) := by
  exact pss_cons (ps_par (by rfl) sc_is_contained.nd rfl rfl (by decide) rfl rfl (pa_cons (pe_callTy call_list_of (by rfl) T.free_list PyProof.Rows.boot_list (pa_cons (pe_cx hr (by rfl) (pa_cons (pv 0) pa_nil) (hm := T.hm_records_of)) pa_nil)) (pa_cons (pe_callTy call_list_of (by rfl) T.free_list PyProof.Rows.boot_list (pa_cons (pe_cx hr (by rfl) (pa_cons (pv 1) pa_nil) (hm := T.hm_records_of)) pa_nil)) pa_nil)) (by rfl)) (pss_cons (ps_set (i := 4) sc_is_contained.nd rfl (Or.inl rfl) (pe_callB (cr_sortX rfl) (by rfl) T.free_sorted PyProof.Rows.boot_sorted (pa_cons (pe_callTy (cr_setX rfl) (by rfl) T.free_set PyProof.Rows.boot_set (pa_cons (pe_lc (own := [("kind", 5), ("quiet", 6)]) rfl sc_is_contained.nd (pi_seq (pe_op op_addX (pv 2) (pv 3))) (blkOk_by (N := ["row", "other", "mine", "theirs", "kinds", "kind", "quiet"]) (sc := defScope s_is_contained) (by decide +kernel)) (fun _ _ _ _ _ => pg_tup rfl (pgs_cons (pg_name (i := 5) sc_is_contained.nd rfl (Or.inl rfl)) (pgs_cons (pg_name (i := 6) sc_is_contained.nd rfl (Or.inl rfl)) pgs_nil))) (fun _ _ _ _ _ => pts_nil) (fun _ _ _ _ _ => pv 5)) pa_nil)) pa_nil))) (pss_cons (ps_if (pt_cmpR (op_notInX (room65 hr)) (pv 4) (pe_tup (pa_cons (pe_lst pa_nil) (pa_cons (pe_lst (pa_cons (C8.pe_gc (by rfl) T.str_LAST) pa_nil)) (pa_cons (pe_lst (pa_cons (C8.pe_gc (by rfl) T.str_FIRST) pa_nil)) pa_nil)))) (by rfl)) (pss_one ps_never) pss_nil) (pss_cons (ps_while PassesOwn.never (PW.pt (pw_and (pt_cmpR (op_neX hr.units) (pv 2) (pe_lst pa_nil) (by rfl)) (pw_and (pt_cmpR (op_neX hr.units) (pv 3) (pe_lst pa_nil) (by rfl)) (pw_and1 (pt_cmpR (op_eqX hr.units) (pe_ix ix_seq (pv 2) pe_int (fun _ _ => rfl)) (pe_ix ix_seq (pv 3) pe_int (fun _ _ => rfl)) (by rfl)))))) (pss_one (ps_par (by rfl) sc_is_contained.nd rfl rfl (by decide) rfl rfl (pa_cons (pe_slice sl_X (pv 2) (po_some pe_int) po_none) (pa_cons (pe_slice sl_X (pv 3) (po_some pe_int) po_none) pa_nil)) (by rfl)))) (pss_one (ps_ret (pe_or (pe_cmpR (op_eqX hr.units) (pv 3) (pe_lst pa_nil) (by rfl)) (pe_one (pe_and (pe_cmpR (op_neX hr.units) (pv 2) (pe_lst pa_nil) (by rfl)) (pe_one (pe_cmpR op_ge (pe_ix ix_seq (pe_ix ix_seq (pv 2) pe_int (fun _ _ => rfl)) pe_int (fun _ _ => rfl)) (pe_ix ix_seq (pe_ix ix_seq (pv 3) (pe_un un_neg pe_int) (fun _ _ => rfl)) pe_int (fun _ _ => rfl)) (by rfl)))))))))))
theorem sc_stretches : FnScope ["stream", "most", "gaps", "found", "low", "gap", "high", "at", "time", "later"] ["stream", "most"] (defScope s_stretches) := ⟨rfl, rfl, rfl, by decide +kernel, rfl, by decide +kernel, by decide +kernel⟩
theorem b_stretches (kV doc pm : Value) (an : Option Addr) (cdv ct : Value) (us : List Value) (hl : us.length = 2) : bindArgs (PySem.W.fnOf "stretches" "stretches" (defArgs s_stretches) (defBody s_stretches) (defScope s_stretches) .none kV doc pm an cdv ct) ⟨us, []⟩ = pure ((["stream", "most"] : List Str).zip us) := match us, hl with | [_, _], _ => rfl
def t_stretches (P : Program) (w : World) (K : PySem.W.Frag) (mg : Str → Option Value) (base : Heap) (j : Nat) : TS := tSeq (tAsg (tCB (rSortX w P) (tCons (tCB (rSetX K w P) (tCons (tLc2 (iEnumX K (tCons (tVar 0) tNil)) (gTup K 2 (gCons (gName 7) (gCons (gName 8) gNil))) tYes (iSeq K (tSl (rSlX K) (tVar 0) (tPart (tOp (rAddX K) (tVar 7) (tC (.int 1)))) tNoPart)) (gName 9) tYes (tOp (rI0 fun i j => .int (i - j)) (tVar 9) (tVar 8)) [7, 8, 9] [9]) tNil)) tNil)) (gName 2)) (tSeq (tPar 3 4 (tCons (tLst tNil) (tCons (tC (.int 2)) tNil))) (tSeq (tFor (iSeq K (tOp (rAddX K) (tVar 2) (tLst (tCons (tVar 1) tNil)))) (gName 5) (tSeq (tAsg (tCB rMin2 (tCons (tVar 5) (tCons (tVar 1) tNil))) (gName 6)) (tIfS (tTest (tOp (rI0 fun i j => .bl (decide (i ≤ j))) (tVar 4) (tVar 6))) (tSeq (tDrop (tBM K "list" rAppend (tVar 3) (tCons (tTup (tCons (tVar 4) (tCons (tVar 6) tNil))) tNil))) (tAsg (tOp (rAddX K) (tVar 6) (tC (.int 1))) (gName 4))) tNext))) (tRet (tVar 3))))
theorem d_stretches {P : Program} {w : World} {K : PySem.W.Frag} {mg : Str → Option Value} {base : Heap} (T : Tx K mg) {j : Nat} {f : Addr} {cdv : Value} {A : Around} {outer : List Env} {s : Shared} {H : Hp} {E : XK} (hr : Room j (A.deeper (envOfC "stretches" (defScope s_stretches) s.heap.objs.size f cdv))) :
    PSs (cxOf C0 P w K mg base ["stream", "most", "gaps", "found", "low", "gap", "high", "at", "time", "later"] "stretches" (defScope s_stretches) f cdv A outer s H E).nox (defBody s_stretches) (t_stretches P w K mg base j) := by
  exact pss_cons (ps_set (i := 2) sc_stretches.nd rfl (Or.inl rfl) (pe_callB (cr_sortX rfl) (by rfl) T.free_sorted PyProof.Rows.boot_sorted (pa_cons (pe_callTy (cr_setX rfl) (by rfl) T.free_set PyProof.Rows.boot_set (pa_cons (pe_lc2 (own := [("at", 7), ("time", 8), ("later", 9)]) (vs1 := [9]) rfl sc_stretches.nd (pi_enumX (by rfl) T.free_enumerate (pa_cons (pv 0) pa_nil)) (blkOk_by (N := ["stream", "most", "gaps", "found", "low", "gap", "high", "at", "time", "later"]) (sc := defScope s_stretches) (by decide +kernel)) (by decide) (fun _ _ _ _ _ => pg_tup rfl (pgs_cons (pg_name (i := 7) sc_stretches.nd rfl (Or.inl rfl)) (pgs_cons (pg_name (i := 8) sc_stretches.nd rfl (Or.inl rfl)) pgs_nil))) (fun _ _ _ _ _ => pts_nil) (fun _ _ _ _ _ => pi_seq (pe_slice sl_X (pv 0) (po_some (pe_op op_addX (pv 7) pe_int)) po_none)) (fun _ _ _ _ _ => pg_name (i := 9) sc_stretches.nd rfl (Or.inl rfl)) (fun _ _ _ _ _ => pts_nil) (fun _ _ _ _ _ => pe_op op_sub (pv 9) (pv 8))) pa_nil)) pa_nil))) (pss_cons (ps_par (by rfl) sc_stretches.nd rfl rfl (by decide) rfl rfl (pa_cons (pe_lst pa_nil) (pa_cons pe_int pa_nil)) (by rfl)) (pss_cons (ps_for PassesOwn.never rfl (pi_seq (pe_op op_addX (pv 2) (pe_lst (pa_cons (pv 1) pa_nil)))) (pg_name (i := 5) sc_stretches.nd rfl (Or.inl rfl)) (pss_cons (ps_set (i := 6) sc_stretches.nd rfl (Or.inl rfl) (pe_callB (call_min2 rfl) (by rfl) T.free_min PyProof.Rows.boot_min (pa_cons (pv 5) (pa_cons (pv 1) pa_nil)))) (pss_one (ps_if (pt_cmpR op_le (pv 4) (pv 6) (by rfl)) (pss_cons (ps_expr (pe_bm PySem.F.plainAttrs_list PySem.F.slot_list_append PySem.F.type_list_append mt_append (pv 3) (pa_cons (pe_tup (pa_cons (pv 4) (pa_cons (pv 6) pa_nil))) pa_nil))) (pss_one (ps_set (i := 4) sc_stretches.nd rfl (Or.inl rfl) (pe_op op_addX (pv 6) pe_int)))) pss_nil)))) (pss_one (ps_ret (pv 3)))))
end Qr

/-! #### Qdg -/
set_option maxHeartbeats 4000000
/-! Derivations. Printed by gen2.py. -/
namespace Qr
open PySem PySem.Spec PyProof.Rows L2

theorem sc_Leads.ways_to_goal : FnScope ["self", "table", "place", "low", "high", "ways", "behind", "numbers", "many", "kind", "left"] ["self"] (defScope s_Leads_ways_to_goal) := ⟨rfl, rfl, rfl, by decide +kernel, rfl, by decide +kernel, by decide +kernel⟩
theorem b_Leads.ways_to_goal (kV doc pm : Value) (an : Option Addr) (cdv ct : Value) (us : List Value) (hl : us.length = 1) : bindArgs (PySem.W.fnOf "ways_to_goal" "Leads.ways_to_goal" (defArgs s_Leads_ways_to_goal) (defBody s_Leads_ways_to_goal) (defScope s_Leads_ways_to_goal) .none kV doc pm an cdv ct) ⟨us, []⟩ = pure ((["self"] : List Str).zip us) := match us, hl with | [_], _ => rfl
def t_Leads.ways_to_goal (P : Program) (w : World) (K : PySem.W.Frag) (mg : Str → Option Value) (base : Heap) (j : Nat) : TS := tSeq (tAsg (tDispT (tTupRg (tRg1 (tCB (rLenA K) (tCons (tFld K (tVar 0) "stream") tNil)))) (tC (.int 1))) (gName 1)) (tSeq (tFor (iEnumX K (tCons (tFld K (tVar 0) "stretches") tNil)) (gTup K 2 (gCons (gName 2) (gCons (gTup K 2 (gCons (gName 3) (gCons (gName 4) gNil))) gNil))) (tSeq (tPar 5 6 (tCons (tOp (rI CDivW fun i j => .int (i / j)) (tOp (rI0 fun i j => .int (i - j)) (tOp (rI CPow fun i j => .int (i * 2 ^ j.toNat)) (tC (.int 1)) (tOp rMulX (tC (.int 2)) (tOp (rAddX K) (tOp (rI0 fun i j => .int (i - j)) (tVar 4) (tVar 3)) (tC (.int 1))))) (tC (.int 1))) (tC (.int 3))) (tCons (tCB (rDictT P w) (tCons (tVar 1) tNil)) tNil))) (tSeq (tLock (tFor (iItemsT (tVar 1)) (gTup K 2 (gCons (gName 7) (gCons (gName 8) gNil))) (tFor (iSeq K (tC (.ref (He.ga K "KINDS")))) (gName 9) (tSeq (tAsg (tMethX P w K mg base j "left" (tVar 0) (tCons (tVar 7) (tCons (tVar 9) (tCons (tVar 2) tNil)))) (gName 10)) (tIfS (tTruV K (tMethX P w K mg base j "is_open" (tVar 0) (tCons (tVar 10) tNil))) (sDPut (tVar 6) (tVar 10) (tOp (rAddX K) (tDGet2 (tVar 6) (tVar 10) (tC (.int 0))) (tOp rMulX (tVar 8) (tVar 5)))) tNext))))) (tAsg (tVar 6) (gName 1))))) (tRet (tDGet2 (tVar 1) (tFld K (tVar 0) "goal") (tC (.int 0)))))
theorem d_Leads.ways_to_goal {P : Program} {w : World} {K : PySem.W.Frag} {mg : Str → Option Value} {base : Heap} (T : Tx K mg) {j : Nat} {f : Addr} {cdv : Value} {A : Around} {outer : List Env} {s : Shared} {H : Hp} {E : XK} (hr : Room j (A.deeper (envOfC "Leads.ways_to_goal" (defScope s_Leads_ways_to_goal) s.heap.objs.size f cdv))) :
    PSs (cxOf C0 P w K mg base ["self", "table", "place", "low", "high", "ways", "behind", "numbers", "many", "kind", "left"] "Leads.ways_to_goal" (defScope s_Leads_ways_to_goal) f cdv A outer s H E).nox (defBody s_Leads_ways_to_goal) (t_Leads.ways_to_goal P w K mg base j) := by
  have hu := hu_of hr
  exact pss_cons (ps_set (i := 1) sc_Leads.ways_to_goal.nd rfl (Or.inl rfl) (pe_dispT hu (pe_tupRg rfl (by rfl) T.free_tuple (prg_1 (by rfl) T.free_range (pe_callB call_len_seq (by rfl) T.free_len PySem.boot_len (pa_cons (pe_fld (pv 0) rfl) pa_nil)))) pe_int)) (pss_cons (ps_for PassesOwn.never rfl (pi_enumX (by rfl) T.free_enumerate (pa_cons (pe_fld (pv 0) rfl) pa_nil)) (pg_tup rfl (pgs_cons (pg_name (i := 2) sc_Leads.ways_to_goal.nd rfl (Or.inl rfl)) (pgs_cons (pg_tup rfl (pgs_cons (pg_name (i := 3) sc_Leads.ways_to_goal.nd rfl (Or.inl rfl)) (pgs_cons (pg_name (i := 4) sc_Leads.ways_to_goal.nd rfl (Or.inl rfl)) pgs_nil))) pgs_nil))) (pss_cons (ps_par (by rfl) sc_Leads.ways_to_goal.nd rfl rfl (by decide) rfl rfl (pa_cons (pe_op op_fdivW (pe_op op_sub (pe_op op_shl pe_int (pe_op op_mulX pe_int (pe_op op_addX (pe_op op_sub (pv 4) (pv 3)) pe_int))) pe_int) pe_int) (pa_cons (pe_callTy (call_dictT hr.units) (by rfl) T.free_dict PyProof.Rows.boot_dict (pa_cons (pv 1) pa_nil)) pa_nil)) (by rfl)) (pss_cons (ps_lock (ps_for PassesOwn.never rfl (pi_itemsT (pv 1)) (pg_tup rfl (pgs_cons (pg_name (i := 7) sc_Leads.ways_to_goal.nd rfl (Or.inl rfl)) (pgs_cons (pg_name (i := 8) sc_Leads.ways_to_goal.nd rfl (Or.inl rfl)) pgs_nil))) (pss_one (ps_for PassesOwn.never rfl (pi_seq (C8.pe_gc (by rfl) T.gl_KINDS)) (pg_name (i := 9) sc_Leads.ways_to_goal.nd rfl (Or.inl rfl)) (pss_cons (ps_set (i := 10) sc_Leads.ways_to_goal.nd rfl (Or.inl rfl) (pe_mx hr (pv 0) (pa_cons (pv 7) (pa_cons (pv 9) (pa_cons (pv 2) pa_nil))))) (pss_one (ps_if (pt_truth (pe_mx hr (pv 0) (pa_cons (pv 10) pa_nil)) (by intro _; rfl)) (pss_one (ps_dput hu (pv 6) (pv 10) (pe_op op_addX (pe_dget2 hu (pv 6) (pv 10) pe_int ⟨rfl, rfl, rfl, rfl⟩) (pe_op op_mulX (pv 8) (pv 5))) rfl)) pss_nil))))))) (pss_one (ps_set (i := 1) sc_Leads.ways_to_goal.nd rfl (Or.inl rfl) (pv 6)))))) (pss_one (ps_ret (pe_dget2 hu (pv 1) (pe_fld (pv 0) rfl) pe_int ⟨rfl, rfl, rfl, rfl⟩))))
end Qr

set_option maxHeartbeats 2000000
namespace Qr
open PySem PySem.Spec PyProof.Rows L2
open C8 (Cal Met Mak)
/-! ### the walk's tactic -/
local macro_rules | `(tactic| walk_at "ev") => `(tactic| repeat' (first
  | ((with_reducible show EvR _ _ _ _ _); first
    | ((with_reducible apply evr_var); · exact rfl)
    | (with_reducible refine evr_op ?_)
    | (with_reducible refine evr_int ?_)
    | (with_reducible refine evr_cb ?_)
    | (with_reducible refine evr_fld ?_)
    | (with_reducible refine evr_bl ?_)
    | (with_reducible refine evr_str ?_)
    | (with_reducible refine evr_ref ?_)
    | (with_reducible refine evr_ty ?_)
    | (with_reducible refine evr_non ?_)
    | (with_reducible refine evr_un ?_)
    | (with_reducible refine evr_lst0 ?_)
    | (with_reducible refine evr_lst ?_)
    | (with_reducible refine evr_tup ?_)
    | (with_reducible refine evr_andV ?_)
    | (with_reducible refine evr_orV ?_)
    | (with_reducible refine evr_notV ?_)
    | (with_reducible refine evr_if ?_)
    | (with_reducible refine evr_tupOf ?_)
    | (with_reducible refine evr_append ?_)
    | (with_reducible refine evr_lstRg ?_)
    | (with_reducible refine evr_tupRg ?_)
    | (with_reducible refine evr_revL ?_)
    | (with_reducible refine evr_chain ?_))
  | ((with_reducible show O2 _ _ _ _ _ _); first
    | (with_reducible refine o2_addI ?_)
    | (with_reducible refine o2_subI ?_)
    | (with_reducible refine o2_ltI ?_)
    | (with_reducible refine o2_leI ?_)
    | (with_reducible refine o2_gtI ?_)
    | (with_reducible refine o2_geI ?_)
    | (with_reducible refine o2_eqI ?_)
    | (with_reducible refine o2_neI ?_)
    | (with_reducible refine o2_eqB ?_)
    | (with_reducible refine o2_neB ?_))
  | (with_reducible refine ear_c ?_)
  | (with_reducible refine ear_nil ?_)
  | (with_reducible refine tgs_cons ?_)
  | (with_reducible refine tgs_nil ?_)
  | (with_reducible refine tg_name ?_)
  | ((with_reducible apply tg_tup); · exact rfl)
  | (with_reducible refine eor_no ?_)
  | (with_reducible refine eor_part ?_)
  | (with_reducible refine o1_neg ?_)
  | (with_reducible refine itT ?_)
  | (with_reducible refine itF ?_)
  | (with_reducible refine itnT ?_)
  | (with_reducible refine itnF ?_)
  | ((with_reducible show OL _ _ _ _ _); first
    | (with_reducible refine ol_len (.lst _) ?_)
    | (with_reducible refine ol_len (.tup _) ?_)
    | (with_reducible refine ol_len (.loc memH) ?_)
    | (with_reducible refine ol_int1b ?_)
    | (with_reducible refine ol_int1i ?_)
    | (with_reducible refine ol_abs ?_)
    | (with_reducible refine ol_min2 ?_))
  | ((with_reducible show TvR _ _ _ _ _); first
    | (with_reducible refine tvr_test ?_)
    | (with_reducible refine tvr_and ?_)
    | (with_reducible refine tvr_or ?_)
    | (with_reducible refine tvr_not ?_)
    | (with_reducible refine tvr_yes ?_)
    | (with_reducible refine tvr_truth ?_))
  | ((with_reducible show StR _ _ _ _ _); first
    | (with_reducible refine st_seq ?_)
    | (with_reducible refine st_ret ?_)
    | (with_reducible refine st_setO ?_)
    | (with_reducible refine st_set ?_)
    | (with_reducible refine st_if ?_)
    | (with_reducible refine st_drop ?_)
    | (with_reducible refine st_next ?_)
    | (with_reducible refine st_par ?_)
    | (with_reducible refine st_par3 ?_)
    | (with_reducible refine st_fld ?_)
    | (with_reducible refine st_ct ?_)
    | (with_reducible refine st_brk ?_))
  | ((with_reducible show Exists _); first
    | refine ⟨_, rfl, ⟨_, memH⟩, ?_⟩
    | refine ⟨_, _, List.Perm.refl _, ?_, ?_⟩
    | refine ⟨_, rfl, ?_⟩
    | refine ⟨_, .bl _, ?_⟩
    | refine ⟨_, _, rfl, ?_⟩
    | ((refine ⟨_, _, _, .ins _ _, ?_, ?_, rfl, ?_⟩); (· (first
      | with_reducible exact Tx.cl_Last (by assumption)
      | with_reducible exact Tx.cl_First (by assumption)
      | with_reducible exact Tx.cl_Limit (by assumption)
      | with_reducible exact Tx.cl_Delay (by assumption)
      | with_reducible exact Tx.cl_Row (by assumption)
      | with_reducible exact Tx.cl_Told (by assumption)
      | with_reducible exact Tx.cl_Train (by assumption)
      | with_reducible exact Tx.cl_Ruler (by assumption)
      | with_reducible exact Tx.cl_Cut (by assumption)
      | with_reducible exact Tx.cl_Normal (by assumption)
      | with_reducible exact Tx.cl_Leads (by assumption)
      | with_reducible exact Tx.cl_Ways (by assumption))); (· (first
      | with_reducible exact Tx.no_Last_q (by assumption)
      | with_reducible exact Tx.no_First_q (by assumption)
      | with_reducible exact Tx.no_Limit_q (by assumption)
      | with_reducible exact Tx.no_Delay_d (by assumption)
      | with_reducible exact Tx.no_Row_members (by assumption)
      | with_reducible exact Tx.no_Told_number (by assumption)
      | with_reducible exact Tx.no_Told_time (by assumption)
      | with_reducible exact Tx.no_Told_first (by assumption)
      | with_reducible exact Tx.no_Told_last (by assumption)
      | with_reducible exact Tx.no_Train_first (by assumption)
      | with_reducible exact Tx.no_Train_head (by assumption)
      | with_reducible exact Tx.no_Train_block (by assumption)
      | with_reducible exact Tx.no_Train_rounds (by assumption)
      | with_reducible exact Tx.no_Train_end (by assumption)
      | with_reducible exact Tx.no_Ruler_first (by assumption)
      | with_reducible exact Tx.no_Ruler_head (by assumption)
      | with_reducible exact Tx.no_Ruler_block (by assumption)
      | with_reducible exact Tx.no_Ruler_end (by assumption)
      | with_reducible exact Tx.no_Ruler_size (by assumption)
      | with_reducible exact Tx.no_Ruler_before (by assumption)
      | with_reducible exact Tx.no_Ruler_behind (by assumption)
      | with_reducible exact Tx.no_Ruler_long (by assumption)
      | with_reducible exact Tx.no_Cut_ahead (by assumption)
      | with_reducible exact Tx.no_Cut_row (by assumption)
      | with_reducible exact Tx.no_Cut_rounds (by assumption)
      | with_reducible exact Tx.no_Cut_rest (by assumption)
      | with_reducible exact Tx.no_Normal_records (by assumption)
      | with_reducible exact Tx.no_Normal_delay (by assumption)
      | with_reducible exact Tx.no_Leads_stream (by assumption)
      | with_reducible exact Tx.no_Leads_goal (by assumption)
      | with_reducible exact Tx.no_Leads_stretches (by assumption)
      | with_reducible exact Tx.no_Leads_fewest (by assumption)
      | with_reducible exact Tx.no_Ways_size (by assumption)
      | with_reducible exact Tx.no_Ways_steps (by assumption)
      | with_reducible exact Tx.no_Ways_heads (by assumption)
      | with_reducible exact Tx.no_Ways_tails (by assumption))))
    | ((refine ⟨_, _, _, .loc memH, ?_, ?_, rfl, ?_⟩); (· (first
      | with_reducible exact Tx.cl_Last (by assumption)
      | with_reducible exact Tx.cl_First (by assumption)
      | with_reducible exact Tx.cl_Limit (by assumption)
      | with_reducible exact Tx.cl_Delay (by assumption)
      | with_reducible exact Tx.cl_Row (by assumption)
      | with_reducible exact Tx.cl_Told (by assumption)
      | with_reducible exact Tx.cl_Train (by assumption)
      | with_reducible exact Tx.cl_Ruler (by assumption)
      | with_reducible exact Tx.cl_Cut (by assumption)
      | with_reducible exact Tx.cl_Normal (by assumption)
      | with_reducible exact Tx.cl_Leads (by assumption)
      | with_reducible exact Tx.cl_Ways (by assumption))); (· (first
      | with_reducible exact Tx.no_Last_q (by assumption)
      | with_reducible exact Tx.no_First_q (by assumption)
      | with_reducible exact Tx.no_Limit_q (by assumption)
      | with_reducible exact Tx.no_Delay_d (by assumption)
      | with_reducible exact Tx.no_Row_members (by assumption)
      | with_reducible exact Tx.no_Told_number (by assumption)
      | with_reducible exact Tx.no_Told_time (by assumption)
      | with_reducible exact Tx.no_Told_first (by assumption)
      | with_reducible exact Tx.no_Told_last (by assumption)
      | with_reducible exact Tx.no_Train_first (by assumption)
      | with_reducible exact Tx.no_Train_head (by assumption)
      | with_reducible exact Tx.no_Train_block (by assumption)
      | with_reducible exact Tx.no_Train_rounds (by assumption)
      | with_reducible exact Tx.no_Train_end (by assumption)
      | with_reducible exact Tx.no_Ruler_first (by assumption)
      | with_reducible exact Tx.no_Ruler_head (by assumption)
      | with_reducible exact Tx.no_Ruler_block (by assumption)
      | with_reducible exact Tx.no_Ruler_end (by assumption)
      | with_reducible exact Tx.no_Ruler_size (by assumption)
      | with_reducible exact Tx.no_Ruler_before (by assumption)
      | with_reducible exact Tx.no_Ruler_behind (by assumption)
      | with_reducible exact Tx.no_Ruler_long (by assumption)
      | with_reducible exact Tx.no_Cut_ahead (by assumption)
      | with_reducible exact Tx.no_Cut_row (by assumption)
      | with_reducible exact Tx.no_Cut_rounds (by assumption)
      | with_reducible exact Tx.no_Cut_rest (by assumption)
      | with_reducible exact Tx.no_Normal_records (by assumption)
      | with_reducible exact Tx.no_Normal_delay (by assumption)
      | with_reducible exact Tx.no_Leads_stream (by assumption)
      | with_reducible exact Tx.no_Leads_goal (by assumption)
      | with_reducible exact Tx.no_Leads_stretches (by assumption)
      | with_reducible exact Tx.no_Leads_fewest (by assumption)
      | with_reducible exact Tx.no_Ways_size (by assumption)
      | with_reducible exact Tx.no_Ways_steps (by assumption)
      | with_reducible exact Tx.no_Ways_heads (by assumption)
      | with_reducible exact Tx.no_Ways_tails (by assumption))))
    | ((refine ⟨_, _, _, _, rfl, List.Perm.refl _, ?_, ?_, Nat.le_of_ble_eq_true rfl, ?_⟩); (· (first
      | with_reducible exact Tx.cl_Last (by assumption)
      | with_reducible exact Tx.cl_First (by assumption)
      | with_reducible exact Tx.cl_Limit (by assumption)
      | with_reducible exact Tx.cl_Delay (by assumption)
      | with_reducible exact Tx.cl_Row (by assumption)
      | with_reducible exact Tx.cl_Told (by assumption)
      | with_reducible exact Tx.cl_Train (by assumption)
      | with_reducible exact Tx.cl_Ruler (by assumption)
      | with_reducible exact Tx.cl_Cut (by assumption)
      | with_reducible exact Tx.cl_Normal (by assumption)
      | with_reducible exact Tx.cl_Leads (by assumption)
      | with_reducible exact Tx.cl_Ways (by assumption))); (· (first
      | with_reducible exact Tx.no_Last_q (by assumption)
      | with_reducible exact Tx.no_First_q (by assumption)
      | with_reducible exact Tx.no_Limit_q (by assumption)
      | with_reducible exact Tx.no_Delay_d (by assumption)
      | with_reducible exact Tx.no_Row_members (by assumption)
      | with_reducible exact Tx.no_Told_number (by assumption)
      | with_reducible exact Tx.no_Told_time (by assumption)
      | with_reducible exact Tx.no_Told_first (by assumption)
      | with_reducible exact Tx.no_Told_last (by assumption)
      | with_reducible exact Tx.no_Train_first (by assumption)
      | with_reducible exact Tx.no_Train_head (by assumption)
      | with_reducible exact Tx.no_Train_block (by assumption)
      | with_reducible exact Tx.no_Train_rounds (by assumption)
      | with_reducible exact Tx.no_Train_end (by assumption)
      | with_reducible exact Tx.no_Ruler_first (by assumption)
      | with_reducible exact Tx.no_Ruler_head (by assumption)
      | with_reducible exact Tx.no_Ruler_block (by assumption)
      | with_reducible exact Tx.no_Ruler_end (by assumption)
      | with_reducible exact Tx.no_Ruler_size (by assumption)
      | with_reducible exact Tx.no_Ruler_before (by assumption)
      | with_reducible exact Tx.no_Ruler_behind (by assumption)
      | with_reducible exact Tx.no_Ruler_long (by assumption)
      | with_reducible exact Tx.no_Cut_ahead (by assumption)
      | with_reducible exact Tx.no_Cut_row (by assumption)
      | with_reducible exact Tx.no_Cut_rounds (by assumption)
      | with_reducible exact Tx.no_Cut_rest (by assumption)
      | with_reducible exact Tx.no_Normal_records (by assumption)
      | with_reducible exact Tx.no_Normal_delay (by assumption)
      | with_reducible exact Tx.no_Leads_stream (by assumption)
      | with_reducible exact Tx.no_Leads_goal (by assumption)
      | with_reducible exact Tx.no_Leads_stretches (by assumption)
      | with_reducible exact Tx.no_Leads_fewest (by assumption)
      | with_reducible exact Tx.no_Ways_size (by assumption)
      | with_reducible exact Tx.no_Ways_steps (by assumption)
      | with_reducible exact Tx.no_Ways_heads (by assumption)
      | with_reducible exact Tx.no_Ways_tails (by assumption)))))
  | ((with_reducible show And _ _); refine ⟨Nat.le_of_ble_eq_true rfl, ?_⟩)))

/-! #### Qk -/
/-! ### what the data are; the short forms of promises -/
@[reducible] def Kd.cls : Kd → Str
  | .last => "Last" | .first => "First" | .limit => "Limit" | .delay => "Delay"
@[reducible] def Kd.fld : Kd → Str
  | .delay => "d" | _ => "q"
abbrev mbD (K : PySem.W.Frag) (k : Kd) (q : Int) : D := .ins (He.ga K k.cls) [(k.fld, .int q)]
abbrev inD (ns : List Int) : List D := ns.map D.int
abbrev nat (n : Nat) : D := .int (n : Int)
abbrev naD (ns : List Nat) : List D := ns.map nat
section
variable {K : PySem.W.Frag} {ρ : Sl} {M : Mem} {R : D → Mem → Prop} {te ta tb tc tv : TE} {x y d : D} {P : Post} {t u : TS}
theorem pureP_len {p : List D → D → Prop} {n : Nat} (h : ∀ ds d, p ds d → ds.length = n) : ∀ ds M R, pureP p ds M R → ds.length = n := fun ds M R ⟨_, d, hp, _⟩ => h ds d hp
theorem initP_len {C : Addr} {p : List D → List (Str × D) → Prop} {n : Nat} (h : ∀ ds d, p ds d → ds.length + 1 = n) : ∀ ds M R, initP C p ds M R → ds.length = n := fun ds M R ⟨x, ds', fs, e, _, hp, _⟩ => by rw [e]; exact h ds' fs hp
theorem getD_map {α : Type} {f : α → D} {xs : List α} {k : Nat} {a : α} (h : k < xs.length) : (xs.map f)[k]? = some (f (xs.getD k a)) := by
  rw [List.getElem?_map, List.getElem?_eq_getElem h, List.getD_eq_getElem?_getD, List.getElem?_eq_getElem h]; rfl
theorem o2_ixF {α : Type} {f : α → D} {xs : List α} {l : Bool} {i : Int} (a : α) (it : Items M x l (xs.map f)) (k : Nat) (hi : i = (k : Int)) (h : k < xs.length) (q : R (f (xs.getD k a)) M) : O2 K (rIx K) x (.int i) M R := by
  subst hi
  exact o2_ix it (atI_nat (getD_map h)) q
theorem o2_ixI {ns : List Int} {i : Int} (k : Nat) (hi : i = (k : Int)) (h : k < ns.length) (q : R (.int (ns.getD k 0)) M) : O2 K (rIx K) (.lst (inD ns)) (.int i) M R := o2_ixF 0 (.lst _) k hi h q
theorem o2_ixN {ns : List Nat} {i : Int} (k : Nat) (hi : i = (k : Int)) (h : k < ns.length) (q : R (nat (ns.getD k 0)) M) : O2 K (rIx K) (.lst (naD ns)) (.int i) M R := o2_ixF 0 (.lst _) k hi h q
theorem rgD_map (n : Nat) : rgD 0 n = naD (List.range n) := by
  unfold rgD
  refine List.map_congr_left fun k _ => ?_
  rw [Int.zero_add]
theorem enD_map {α : Type} (f : α → D) (xs : List α) : enD (xs.map f) = xs.zipIdx.map fun p => .tup [nat p.2, f p.1] := by
  unfold enD
  refine List.ext_getElem? fun i => ?_
  rw [List.getElem?_mapIdx, List.getElem?_map, List.getElem?_map, List.getElem?_zipIdx]
  cases xs[i]? with
  | none => rfl
  | some a => show some _ = some _; rw [Nat.zero_add]
theorem st_keep {Q : Sl → Mem → Prop} (h : StR K t ρ M { nx := Q, rt := P.rt, bk := P.bk, ct := P.ct }) (k : ∀ ρ' M', Q ρ' M' → P.nx ρ' M') : StR K t ρ M P := st_mono h k (fun _ _ x => x) (fun _ _ x => x) (fun _ _ x => x)
end
abbrev is2 (a b : Nat) : List Nat := [a] ++ ([b] ++ [])
abbrev is3 (a b c : Nat) : List Nat := [a] ++ ([b] ++ ([c] ++ []))

/-! #### Qy -/
/-! The same over data. -/
section
variable {P : Program} {w : World} {K : PySem.W.Frag} {ρ : Sl} {M : Mem} {R : D → Mem → Prop} {te ta tb tc tv td ty tx tk : TE} {Po : Post}
theorem evr_dispT (h : ∀ p, (∀ q ∈ M, q.1 ≠ p) → EvR K tk ρ ((p, .dT []) :: M) fun x M1 => EvR K tv ρ M1 fun y M2 => ∃ ks : List L2.Key, M2 = (p, .dT []) :: M ∧ x = .tup (ks.map kD) ∧ R (.loc p) ((p, .dT [(ks, y)]) :: M)) :
    EvR K (tDispT tk tv) ρ M R := fun F0 H0 F H σ S W Q q => fun p hp => by
  have W1 := W.newO hp (RepO.dT (K := K) (H := F) .nil)
  refine h p (W.ne hp) F0 H0 F _ σ S W1 _ fun v x M1 F1 H1 e1 W2 r1 k1 => k1 F0 H0 F1 H1 σ (S.mono e1) W2 _ fun u y M2 F2 H2 e2 W3 r2 ⟨ks, em, ex, k⟩ => ?_
  subst em; subst ex
  obtain ⟨o, ho, ro⟩ := W3.at (List.mem_cons_self ..)
  have r1 := r1.mono e2
  cases ro with
  | dT r0 =>
    cases r0
    cases r1 with
    | @tup b vs _ hT rt =>
      rw [kDs_rep rt] at hT
      exact ⟨ho, ks, b, rfl, W3.ex _ _ hT, q _ _ _ _ _ (e1.trans e2) (W3.write (.dT (.cons r2 .nil))) (.loc p) k⟩
theorem RepK.keys {κ : Type} {F : Hp} : ∀ {vs : List (κ × V)} {ds : List (κ × D)}, RepK K F vs ds → vs.map (·.1) = ds.map (·.1)
  | _, _, .nil => rfl
  | _, _, .cons _ t => by rw [List.map_cons, List.map_cons, RepK.keys t]
theorem ol_dictT {a : Addr} {kvs : List (List L2.Key × D)} (hm : (a, DO.dT kvs) ∈ M) (nd : (kvs.map fun kv => (tupleKind (mixKind P w)).hash kv.1).Nodup) (k : ∀ p, (∀ q ∈ M, q.1 ≠ p) → R (.loc p) ((p, .dT kvs) :: M)) :
    OL K (rDictT P w) [.loc a] M R := fun F0 H0 F H vs W r1 Q z => by
  obtain ⟨v, rfl, r⟩ := reps_one r1
  cases r
  obtain ⟨u, hu, ro⟩ := W.at hm
  cases ro with
  | @dT vs _ rk =>
    refine ⟨a, vs, rfl, hu, ?_, fun p hp => z _ _ _ _ _ (Ex.refl F) (W.newO hp (.dT rk)) (.loc p) (k p (W.ne hp))⟩
    have e : vs.map (fun kv => (tupleKind (mixKind P w)).hash kv.1) = kvs.map fun kv => (tupleKind (mixKind P w)).hash kv.1 := by
      have := congrArg (List.map (tupleKind (mixKind P w)).hash) rk.keys
      rw [List.map_map, List.map_map] at this
      exact this
    rw [e]; exact nd
/-- an owned thing is locked: it stands in the frame -/
theorem Wok.lockO {F0 H0 F H : Hp} {p : Addr} {o : DO} (W : Wok K F0 H0 F ((p, o) :: M) H) (u' : HO) : Wok K F0 (upd H0 p u') F M (upd H p u') := by
  obtain ⟨h0, hf, u, hu, ro⟩ := W.own (p, o) (List.mem_cons_self ..)
  have nd := W.nd
  rw [List.map_cons, List.nodup_cons] at nd
  have ne : ∀ b v, F b = some v → b ≠ p := fun b v e z => by rw [z, hf] at e; cases e
  refine ⟨fun b v e => ?_, W.e0, fun b v e => ?_, fun b v e => ?_, fun q hq => ?_, nd.2⟩
  · rw [upd_ne (ne b v e)]; exact W.ex b v e
  · by_cases hb : b = p
    · subst hb; rw [upd_same] at e ⊢; exact e
    · rw [upd_ne hb] at e ⊢; exact W.e1 b v e
  · rw [upd_ne (ne b v e)]; exact W.nw b v e
  · have hb : q.1 ≠ p := fun e => nd.1 (List.mem_map.mpr ⟨q, hq, e⟩)
    obtain ⟨a1, a2, v, a3, a4⟩ := W.own q (List.mem_cons_of_mem _ hq)
    exact ⟨by rw [upd_ne hb]; exact a1, a2, v, by rw [upd_ne hb]; exact a3, a4⟩
theorem Wok.openO {F0 H0 F' H' : Hp} {p : Addr} {u u' : HO} {o : DO} (W : Wok K F0 (upd H0 p u') F' M H') (hu : ∀ vs, u' ≠ .tup vs) (h0 : H0 p = none) (f0 : F0 p = none) (ro : RepO K F' u o) : Wok K F0 H0 F' ((p, o) :: M) (upd H' p u) := by
  have hp : ∀ q ∈ M, q.1 ≠ p := fun q hq z => by
    have := (W.own q hq).1
    rw [z, upd_same] at this
    cases this
  have fp : F' p = none := by
    cases e : F' p with
    | none => rfl
    | some v =>
      rcases W.nw p v e with z | z | ⟨vs, hv, z⟩
      · rw [f0] at z; cases z
      · rw [upd_same] at z; cases z
      · rw [upd_same] at z
        cases z
        exact absurd hv (hu vs)
  have ne : ∀ b v, F' b = some v → b ≠ p := fun b v e z => by rw [z, fp] at e; cases e
  refine ⟨fun b v e => ?_, W.e0, fun b v e => ?_, fun b v e => ?_, fun q hq => ?_, ?_⟩
  · rw [upd_ne (ne b v e)]; exact W.ex b v e
  · have hb : b ≠ p := fun z => by rw [z, h0] at e; cases e
    rw [upd_ne hb]
    exact W.e1 b v (by rw [upd_ne hb]; exact e)
  · rcases W.nw b v e with z | z | ⟨vs, hv, z⟩
    · exact .inl z
    · rw [upd_ne (ne b v e)] at z; exact .inr (.inl z)
    · rw [upd_ne (ne b v e)] at z; exact .inr (.inr ⟨vs, hv, z⟩)
  · rcases List.mem_cons.mp hq with z | hq
    · subst z
      exact ⟨h0, fp, u, upd_same, ro⟩
    · obtain ⟨a1, a2, v, a3, a4⟩ := W.own q hq
      rw [upd_ne (hp q hq)] at a1
      exact ⟨a1, a2, v, by rw [upd_ne (hp q hq)]; exact a3, a4⟩
  · rw [List.map_cons, List.nodup_cons]
    refine ⟨fun hm => ?_, W.nd⟩
    obtain ⟨q, hq, e⟩ := List.mem_map.mp hm
    exact hp q hq e
/-- the pairs as data -/
def itmD (kvs : List (List L2.Key × D)) : List D := kvs.map fun kv => .tup [.tup (kv.1.map kD), kv.2]
theorem RepK.get' {κ : Type} {F : Hp} : ∀ {vs : List (κ × V)} {ds : List (κ × D)} {i : Nat} {k : κ} {v : V}, RepK K F vs ds → vs[i]? = some (k, v) → ∃ d, ds[i]? = some (k, d) ∧ Rep K F v d
  | _, _, _, _, _, .nil, e => by simp at e
  | _, _, 0, _, _, .cons r _, e => by simp at e; obtain ⟨rfl, rfl⟩ := e; exact ⟨_, rfl, r⟩
  | _, _, i + 1, _, _, .cons _ t, e => by
    obtain ⟨d, h1, h2⟩ := RepK.get' (i := i) t (by simpa using e)
    exact ⟨d, by simpa using h1, h2⟩
theorem reps_kD {F : Hp} : ∀ ks : List L2.Key, Reps K F (ks.map kV) (ks.map kD)
  | [] => .nil
  | k :: ks => .cons (rep_kD k) (reps_kD ks)
theorem yields_itemsT {F0 H0 F : Hp} {d : Addr} {od : Obj} {vs : List (List L2.Key × V)} {kvs : List (List L2.Key × D)} (hH : H0 d = some (.frz od (.dT vs))) (r : RepK K F vs kvs) : Yields K F0 H0 F (ItiT d od vs) (itmD kvs) := fun M' F' H' e W' => by
  have hd : H' d = some (.frz od (.dT vs)) := W'.e1 _ _ hH
  refine ⟨fun i x hx => ⟨⟨hd, ?_⟩, fun y H'' ⟨T, q, k, v, hkv, ey, hT, hq, eH⟩ => ?_⟩, hd, by unfold itmD; rw [List.length_map, r.length]; exact Nat.le_refl _⟩
  · have : i < (itmD kvs).length := (List.getElem?_eq_some_iff.mp hx).1
    unfold itmD at this
    rw [List.length_map] at this
    rw [r.length]; exact this
  · subst ey; subst eH
    obtain ⟨dd, hdd, rv⟩ := r.get' hkv
    unfold itmD at hx
    rw [List.getElem?_map, hdd] at hx
    cases hx
    obtain ⟨F1, e1, W1, rq⟩ := W'.adopt hq (reps_kD k)
    obtain ⟨W2, e2⟩ := W1.new hT (.tup [.ref q, v])
    exact ⟨_, e1.trans e2, W2, .tup upd_same (.cons (rq.mono e2) (.one ((rv.mono e).mono (e1.trans e2))))⟩
/-- for k, v in d.items(), the dict d locked -/
theorem st_items {g : TG} {is : List Nat} {t : TS} {a : Addr} {i0 : Nat} {kvs : List (List L2.Key × D)} {Mr : Mem} (hi : ρ[i0]? = some (some (.loc a))) (pm : M.Perm ((a, .dT kvs) :: Mr)) (h : ∃ Iv : Nat → Sl → Mem → Prop, Iv 0 ρ Mr ∧
    (∀ i d ρ' M', (itmD kvs)[i]? = some d → Iv i ρ' M' → TgR g is K d ρ' fun ρ2 => StR K t ρ2 M' { nx := Iv (i + 1), ct := Iv (i + 1), bk := fun _ _ => False, rt := fun _ _ => False }) ∧ ∀ ρ' M', Iv (itmD kvs).length ρ' M' → Po.nx ρ' ((a, .dT kvs) :: M')) :
    StR K (tLock (tFor (iItemsT (tVar i0)) g t)) ρ M Po := fun F0 H0 F H σ S W E ea eb ec edd => by
  obtain ⟨Iv, h0, hs, hdn⟩ := h
  have W := W.perm pm
  obtain ⟨u, hu, ro, q0, f0, _⟩ := W.hide
  cases ro with
  | @dT vs _ rk =>
    refine ⟨a, _, hu, trivial, fun od => ?_⟩
    have W1 := W.lockO (.frz od (.dT vs))
    obtain ⟨v, hv, rv⟩ := S.at_ i0 _ hi
    cases rv
    refine ⟨.ref a, hv, a, od, vs, rfl, upd_same, ?_⟩
    have y := yields_itemsT (K := K) (F0 := F0) (F := F) (d := a) (od := od) (H0 := upd H0 a (.frz od (.dT vs))) upd_same rk
    generalize hds : itmD kvs = ds at *
    have fin : ∀ (σ' : L2.St) (ρ' : Sl) (M' : Mem) (F' H' : Hp), Ex F F' → Sok K F' ρ' σ' → Wok K F0 (upd H0 a (.frz od (.dT vs))) F' M' H' → Iv ds.length ρ' M' → H' a = some (.frz od (.dT vs)) ∧ E.nx σ' (upd H' a (.dT vs)) := fun σ' ρ' M' F' H' e' S' W' iv =>
      ⟨W'.e1 _ _ upd_same, ea σ' ρ' _ F' _ e' S' (W'.openO (fun _ z => nomatch z) q0 f0 (.dT (rk.mono e'))) (hdn ρ' M' iv)⟩
    refine ⟨fun i m σ' H' => m = ds.length - i ∧ i ≤ ds.length ∧ ∃ F' ρ' M', Ex F F' ∧ Sok K F' ρ' σ' ∧ Wok K F0 (upd H0 a (.frz od (.dT vs))) F' M' H' ∧ Iv i ρ' M', ⟨ds.length, by simp, Nat.zero_le _, F, ρ, Mr, Ex.refl _, S, W1, h0⟩, ?_⟩
    rintro i m σ' H' ⟨rfl, hi, F', ρ', M', e', S', W', iv⟩
    obtain ⟨y1, y2⟩ := y M' F' H' e' W'
    by_cases hlt : i < ds.length
    · obtain ⟨g1, g2⟩ := y1 i ds[i] (List.getElem?_eq_getElem hlt)
      refine .inr ⟨g1, fun σ2 H2 => ∃ F2 ρ2 M2, Ex F F2 ∧ Sok K F2 ρ2 σ2 ∧ Wok K F0 (upd H0 a (.frz od (.dT vs))) F2 M2 H2 ∧ Iv (i + 1) ρ2 M2, fun σ2 H2 ⟨F2, ρ2, M2, z1, z2, z3, z4⟩ => ⟨ds.length - (i + 1), by omega, rfl, hlt, F2, ρ2, M2, z1, z2, z3, z4⟩, fun x H'' hy => ?_⟩
      obtain ⟨F'', e'', W'', rx⟩ := g2 x H'' hy
      refine hs i _ ρ' M' (List.getElem?_eq_getElem hlt) iv F'' H'' σ' x (S'.mono e'') W''.ex rx _ fun σ2 ρ2 _ S2 st => ?_
      exact st F0 _ F'' H'' σ2 S2 W'' _ (fun σ3 ρ3 M3 F3 H3 e3 S3 W3 k => ⟨F3, ρ3, M3, (e'.trans e'').trans e3, S3, W3, k⟩) (fun v x M3 F3 H3 e3 W3 r3 k => k.elim) (fun σ3 ρ3 M3 F3 H3 e3 S3 W3 k => k.elim) (fun σ3 ρ3 M3 F3 H3 e3 S3 W3 k => ⟨F3, ρ3, M3, (e'.trans e'').trans e3, S3, W3, k⟩)
    · have e : i = ds.length := by omega
      subst e
      exact .inl ⟨y2, fin σ' ρ' M' F' H' e' S' W' iv⟩
/-- some owned objects are let go -/
theorem st_sub {t : TS} {M1 M2 : Mem} (pm : M.Perm (M1 ++ M2)) (h : StR K t ρ M2 Po) : StR K t ρ M Po := fun F0 H0 F H σ S W E a b c d => h F0 H0 F H σ S (W.perm pm).sub E a b c d
theorem evr_sub {M1 M2 : Mem} (pm : M.Perm (M1 ++ M2)) (h : EvR K te ρ M2 R) : EvR K te ρ M R := fun F0 H0 F H σ S W Q q => h F0 H0 F H σ S (W.perm pm).sub Q q
end

/-! #### W1 -/
section
variable {P : Program} {w : World} {K : PySem.W.Frag} {mg : Str → Option Value} {base : Heap}
theorem enM_get {α : Type} {f : α → D} {xs : List α} {i : Nat} {d : D} (a : α) (h : (xs.zipIdx.map fun p => D.tup [nat p.2, f p.1])[i]? = some d) : i < xs.length ∧ d = .tup [nat i, f (xs.getD i a)] := by
  rw [List.getElem?_map, List.getElem?_zipIdx] at h
  by_cases hi : i < xs.length
  · rw [List.getElem?_eq_getElem hi] at h
    refine ⟨hi, ?_⟩
    rw [List.getD_eq_getElem?_getD, List.getElem?_eq_getElem hi]
    have h : some (D.tup [nat (0 + i), f xs[i]]) = some d := h
    rw [Nat.zero_add] at h
    exact (Option.some.inj h).symm
  · rw [List.getElem?_eq_none (by omega)] at h
    cases h
theorem enM_len {α : Type} {f : α → D} {xs : List α} : (xs.zipIdx.map fun p => D.tup [nat p.2, f p.1]).length = xs.length := by rw [List.length_map, List.length_zipIdx]
theorem map_get {α : Type} {f : α → D} {xs : List α} {i : Nat} {d : D} (a : α) (h : (xs.map f)[i]? = some d) : i < xs.length ∧ d = f (xs.getD i a) := by
  rw [List.getElem?_map] at h
  by_cases hi : i < xs.length
  · rw [List.getElem?_eq_getElem hi] at h
    refine ⟨hi, ?_⟩
    rw [List.getD_eq_getElem?_getD, List.getElem?_eq_getElem hi]
    exact (Option.some.inj h).symm
  · rw [List.getElem?_eq_none (by omega)] at h
    cases h
abbrev sIsNumber : List D → D → Prop := fun ds d => ∃ i : Int, ds = [.int i] ∧ d = .bl true
theorem c_is_number (T : Tx K mg) : Cal P w K mg base 1 "is_number" (spD K sIsNumber) [] := by
  refine calD T.fn_is_number T.mg_is_number sc_is_number b_is_number (fun hr => d_is_number T hr) (pureP_len ?_) ?_
  · rintro ds d ⟨i, rfl, rfl⟩; rfl
  · rintro ds M R ⟨rfl, d, ⟨i, rfl, rfl⟩, rfl⟩
    unfold t_is_number
    walk_at "ev"
    refine ol_isi (.int i) (.ty "int") (b := true) (by rfl) ?_
    walk_at "ev"
    refine ol_isi (.int i) (.ty "bool") (b := false) (by rfl) ?_
    walk_at "ev"
    rfl
/-- strictly rising -/
def Up (ns : List Int) : Prop := ∀ i, i + 1 < ns.length → ns.getD i 0 < ns.getD (i + 1) 0
abbrev sCheckStream : List D → D → Prop := fun ds d => ∃ ns : List Int, ds = [.lst (inD ns)] ∧ Up ns ∧ d = .non
theorem c_check_stream (T : Tx K mg) : Cal P w K mg base 2 "check_stream" (spD K sCheckStream) [] := by
  refine calD T.fn_check_stream T.mg_check_stream sc_check_stream b_check_stream (fun hr => d_check_stream T hr) (pureP_len ?_) ?_
  · rintro ds d ⟨ns, rfl, _, rfl⟩; rfl
  · rintro ds M R ⟨rfl, d, ⟨ns, rfl, hu, rfl⟩, rfl⟩
    unfold t_check_stream
    walk_at "ev"
    refine ol_isiT (.lst _) (.cons (.ty _) (.cons (.ty _) .nil)) (b := true) (by rfl) ?_
    walk_at "ev"
    refine st_for (is := is2 1 2) (itr_enumX ?_)
    walk_at "ev"
    refine ⟨_, _, _, rfl, .lst _, ?_⟩
    rw [enD_map]
    refine ⟨fun i ρ' M' => M' = [] ∧ ∃ a b, ρ' = [some (.lst (inD ns)), a, b], ⟨rfl, _, _, rfl⟩, ?_, ?_⟩
    · rintro i d ρ' M' hd ⟨rfl, a, b, rfl⟩
      obtain ⟨hi, rfl⟩ := enM_get 0 hd
      walk_at "ev"
      refine evr_call (c_is_number T) (by decide) ?_
      walk_at "ev"
      refine ⟨_, ⟨_, rfl, rfl⟩, ?_⟩
      walk_at "ev"
      refine itD (fun h => ?_) (fun h => ?_)
      · walk_at "ev"
        refine o2_ixI (i - 1) (by omega) (by omega) ?_
        walk_at "ev"
        refine itN ?_ ?_
        · have := hu (i - 1) (by omega)
          rw [show i - 1 + 1 = i by omega] at this
          omega
        · walk_at "ev"
          exact ⟨rfl, _, _, rfl⟩
      · walk_at "ev"
        exact ⟨rfl, _, _, rfl⟩
    · rintro ρ' M' ⟨rfl, a, b, rfl⟩
      rfl
/-! ### members -/
def keptL (q : Int) (ns : List Int) : List Nat := (List.range ns.length).filter fun a => decide (a + 1 = ns.length) || decide (q ≤ ns.getD (a + 1) 0 - ns.getD a 0)
def keptF (q : Int) (ns : List Int) : List Nat := (List.range ns.length).filter fun a => decide (a = 0) || decide (q ≤ ns.getD a 0 - ns.getD (a - 1) 0)
def limStep (q : Int) (ns : List Int) (found : List Nat) (a : Nat) : List Nat := if found.isEmpty || decide (q ≤ ns.getD a 0 - ns.getD (found.getLastD 0) 0) then found ++ [a] else found
def keptLim (q : Int) (ns : List Int) : List Nat := (List.range ns.length).foldl (limStep q ns) []
def keptK : Kd → Int → List Int → List Nat
  | .last => keptL | .first => keptF | .limit => keptLim | .delay => fun _ ns => List.range ns.length
def sKept (K : PySem.W.Frag) (k : Kd) : List D → D → Prop := fun ds d => ∃ (q : Int) (ns : List Int), ds = [mbD K k q, .lst (inD ns)] ∧ ns.length ≤ 100000 ∧ d = .lst (naD (keptK k q ns))
theorem sKept_len {k : Kd} : ∀ ds d, sKept K k ds d → ds.length = 2 := by
  rintro ds d ⟨q, ns, rfl, _, rfl⟩; rfl
theorem m_Last_kept (T : Tx K mg) : Met P w K mg base 1 (He.ga K "Last") "kept" (spD K (sKept K .last)) [] := by
  refine metD T.fn_Last_kept T.cl_Last T.me_Last_kept sc_Last.kept b_Last.kept (fun hr => d_Last.kept T hr) (pureP_len sKept_len) ?_
  rintro ds M R ⟨rfl, d, ⟨q, ns, rfl, hn, rfl⟩, rfl⟩
  unfold t_Last.kept
  walk_at "ev"
  rw [List.length_map]
  refine evr_lcf (α := Nat) (is := [3]) (by decide) (itr_rng1 ?_)
  walk_at "ev"
  refine ⟨⟨by omega, by omega⟩, List.range ns.length, nat, nat, fun a => decide (a + 1 = ns.length) || decide (q ≤ ns.getD (a + 1) 0 - ns.getD a 0), by rw [Int.toNat_natCast, rgD_map], by rw [List.length_range]; exact hn, ?_, rfl⟩
  intro a ha
  have ha := List.mem_range.mp ha
  walk_at "ev"
  refine itD (fun h => ?_) (fun h => ?_)
  · refine ⟨rfl, ?_, fun _ => ?_⟩
    · dsimp only; rw [decide_eq_true (by omega : a + 1 = ns.length)]; rfl
    · walk_at "ev"
      exact ⟨rfl, rfl⟩
  · walk_at "ev"
    refine o2_ixI (a + 1) (by omega) (by omega) ?_
    walk_at "ev"
    refine o2_ixI a (by omega) (by omega) ?_
    walk_at "ev"
    refine ⟨rfl, ?_, fun _ => ?_⟩
    · dsimp only; rw [decide_eq_false (by omega : ¬ a + 1 = ns.length), Bool.false_or]
    · walk_at "ev"
      exact ⟨rfl, rfl⟩
theorem m_First_kept (T : Tx K mg) : Met P w K mg base 1 (He.ga K "First") "kept" (spD K (sKept K .first)) [] := by
  refine metD T.fn_First_kept T.cl_First T.me_First_kept sc_First.kept b_First.kept (fun hr => d_First.kept T hr) (pureP_len sKept_len) ?_
  rintro ds M R ⟨rfl, d, ⟨q, ns, rfl, hn, rfl⟩, rfl⟩
  unfold t_First.kept
  walk_at "ev"
  refine evr_lcf (α := Nat) (is := [2]) (by decide) (itr_rng1 ?_)
  walk_at "ev"
  rw [List.length_map]
  refine ⟨⟨by omega, by omega⟩, List.range ns.length, nat, nat, fun a => decide (a = 0) || decide (q ≤ ns.getD a 0 - ns.getD (a - 1) 0), by rw [Int.toNat_natCast, rgD_map], by rw [List.length_range]; exact hn, ?_, rfl⟩
  intro a ha
  have ha := List.mem_range.mp ha
  walk_at "ev"
  refine itD (fun h => ?_) (fun h => ?_)
  · refine ⟨rfl, ?_, fun _ => ?_⟩
    · dsimp only; rw [decide_eq_true (by omega : a = 0)]; rfl
    · walk_at "ev"
      exact ⟨rfl, rfl⟩
  · walk_at "ev"
    refine o2_ixI a (by omega) (by omega) ?_
    walk_at "ev"
    refine o2_ixI (a - 1) (by omega) (by omega) ?_
    walk_at "ev"
    refine ⟨rfl, ?_, fun _ => ?_⟩
    · dsimp only; rw [decide_eq_false (by omega : ¬ a = 0), Bool.false_or]
    · walk_at "ev"
      exact ⟨rfl, rfl⟩
theorem m_Delay_kept (T : Tx K mg) : Met P w K mg base 1 (He.ga K "Delay") "kept" (spD K (sKept K .delay)) [] := by
  refine metD T.fn_Delay_kept T.cl_Delay T.me_Delay_kept sc_Delay.kept b_Delay.kept (fun hr => d_Delay.kept T hr) (pureP_len sKept_len) ?_
  rintro ds M R ⟨rfl, d, ⟨q, ns, rfl, hn, rfl⟩, rfl⟩
  unfold t_Delay.kept
  walk_at "ev"
  rw [List.length_map]
  refine ⟨by omega, by omega, ?_⟩
  rw [Int.toNat_natCast, rgD_map]
  rfl
theorem o2_eqNilN {M : Mem} {R : D → Mem → Prop} {x : D} (xs : List Nat) (it : Items M x true (naD xs)) (k : R (.bl xs.isEmpty) M) : O2 K (rEqX K) x (.lst []) M R := by
  have e : naD xs = (xs.map fun n : Nat => (n : Int)).map Enc.en := by rw [List.map_map]; rfl
  rw [e] at it
  refine o2_eqNilE _ it ?_
  rw [show (xs.map fun n : Nat => (n : Int)).isEmpty = xs.isEmpty by cases xs <;> rfl]
  exact k
theorem range_snoc (i : Nat) : List.range (i + 1) = List.range i ++ [i] := List.range_succ
theorem lim_lt (q : Int) (ns : List Int) : ∀ (i : Nat) (x : Nat), x ∈ (List.range i).foldl (limStep q ns) [] → x < i
  | 0, x, h => by cases h
  | i + 1, x, h => by
    rw [range_snoc, List.foldl_append, List.foldl_cons, List.foldl_nil] at h
    have ih := lim_lt q ns i x
    unfold limStep at h
    split at h
    · rcases List.mem_append.mp h with h | h
      · have := ih h; omega
      · rw [List.mem_singleton] at h; omega
    · have := ih h; omega
theorem naD_snoc (xs : List Nat) (i : Nat) : naD (xs ++ [i]) = naD xs ++ [nat i] := List.map_append
theorem lim_len (q : Int) (ns : List Int) : ∀ i : Nat, ((List.range i).foldl (limStep q ns) []).length ≤ i
  | 0 => Nat.le_refl _
  | i + 1 => by
    rw [range_snoc, List.foldl_append, List.foldl_cons, List.foldl_nil]
    have := lim_len q ns i
    generalize (List.range i).foldl (limStep q ns) [] = fl at this ⊢
    unfold limStep
    split
    · rw [List.length_append]; exact Nat.add_le_add_right this 1
    · omega
theorem lim_succ (q : Int) (ns : List Int) (i : Nat) : (List.range (i + 1)).foldl (limStep q ns) [] = limStep q ns ((List.range i).foldl (limStep q ns) []) i := by rw [range_snoc, List.foldl_append, List.foldl_cons, List.foldl_nil]
theorem last_mem {xs : List Nat} (h : xs.isEmpty = false) : xs.getLast? = some (xs.getLastD 0) ∧ xs.getLastD 0 ∈ xs := by
  have hne : xs ≠ [] := by intro e; subst e; cases h
  have e : xs.getLastD 0 = xs.getLast hne := by rw [List.getLastD_eq_getLast?, List.getLast?_eq_some_getLast hne]; rfl
  exact ⟨by rw [e, List.getLast?_eq_some_getLast hne], by rw [e]; exact List.getLast_mem hne⟩
theorem m_Limit_kept (T : Tx K mg) : Met P w K mg base 1 (He.ga K "Limit") "kept" (spD K (sKept K .limit)) [] := by
  refine metD T.fn_Limit_kept T.cl_Limit T.me_Limit_kept sc_Limit.kept b_Limit.kept (fun hr => d_Limit.kept T hr) (pureP_len sKept_len) ?_
  rintro ds M R ⟨rfl, d, ⟨q, ns, rfl, hn, rfl⟩, rfl⟩
  unfold t_Limit.kept
  walk_at "ev"
  intro p hp
  walk_at "ev"
  refine st_for (is := is2 3 4) (itr_enumX ?_)
  walk_at "ev"
  refine ⟨_, _, _, rfl, .lst _, ?_⟩
  rw [enD_map]
  refine ⟨fun i ρ' M' => M' = [(p, .lst (naD ((List.range i).foldl (limStep q ns) [])))] ∧ ∃ a b, ρ' = [some (mbD K .limit q), some (.lst (inD ns)), some (.loc p), a, b], ⟨rfl, _, _, rfl⟩, ?_, ?_⟩
  · rintro i d ρ' M' hd ⟨rfl, a, b, rfl⟩
    obtain ⟨hi, rfl⟩ := enM_get 0 hd
    have hlt := lim_lt q ns i
    have hlen := lim_len q ns i
    have he := lim_succ q ns i
    generalize (List.range i).foldl (limStep q ns) [] = fl at hlt hlen he ⊢
    walk_at "ev"
    refine o2_eqNilN fl (.loc memH) ?_
    walk_at "ev"
    refine itB (fun h => ?_) (fun h => ?_)
    · walk_at "ev"
      · rw [List.length_map]; omega
      · refine ⟨?_, _, _, rfl⟩
        rw [he]
        unfold limStep
        rw [h, Bool.true_or, if_pos rfl, naD_snoc]
    · obtain ⟨h1, h2⟩ := last_mem h
      walk_at "ev"
      refine o2_ix (.loc memH) (atI_last (d := nat (fl.getLastD 0)) (by rw [List.getLast?_map, h1]; rfl)) ?_
      refine o2_ixI (fl.getLastD 0) rfl (Nat.lt_trans (hlt _ h2) hi) ?_
      walk_at "ev"
      refine itD (fun h' => ?_) (fun h' => ?_)
      · walk_at "ev"
        · rw [List.length_map]; omega
        · refine ⟨?_, _, _, rfl⟩
          rw [he]
          unfold limStep
          rw [h, decide_eq_true h', Bool.or_true, if_pos rfl, naD_snoc]
      · walk_at "ev"
        refine ⟨?_, _, _, rfl⟩
        rw [he]
        unfold limStep
        rw [h, decide_eq_false h', Bool.or_false, if_neg Bool.false_ne_true]
  · rintro ρ' M' ⟨rfl, a, b, rfl⟩
    rw [enM_len]
    refine st_frz (i := 2) rfl (List.Perm.refl _) ?_
    walk_at "ev"
    rfl
end

/-! #### W2 -/
section
variable {P : Program} {w : World} {K : PySem.W.Frag} {mg : Str → Option Value} {base : Heap}
structure Mb where
  k : Kd
  q : Int
  deriving DecidableEq
abbrev mD (K : PySem.W.Frag) (m : Mb) : D := mbD K m.k m.q
def wt : Mb → Int
  | ⟨.last, q⟩ => q | ⟨.delay, q⟩ => q | _ => 0
theorem len1 {p : List D → D → Prop} (h : ∀ ds d, p ds d → ∃ x, ds = [x]) : ∀ ds d, p ds d → ds.length = 1 := fun ds d hp => by obtain ⟨x, rfl⟩ := h ds d hp; rfl
def sWaits (K : PySem.W.Frag) (k : Kd) : List D → D → Prop := fun ds d => ∃ q : Int, ds = [mbD K k q] ∧ d = .int (wt ⟨k, q⟩)
theorem m_waits (T : Tx K mg) (k : Kd) (hk : k ≠ .limit) : Met P w K mg base 1 (He.ga K k.cls) "waits" (spD K (sWaits K k)) [] := by
  have hl : ∀ ds d, sWaits K k ds d → ds.length = 1 := by rintro ds d ⟨q, rfl, rfl⟩; rfl
  cases k with
  | limit => exact absurd rfl hk
  | last =>
    refine metD T.fn_Last_waits T.cl_Last T.me_Last_waits sc_Last.waits b_Last.waits (fun hr => d_Last.waits T hr) (pureP_len hl) ?_
    rintro ds M R ⟨rfl, d, ⟨q, rfl, rfl⟩, rfl⟩
    unfold t_Last.waits
    walk_at "ev"
    rfl
  | first =>
    refine metD T.fn_First_waits T.cl_First T.me_First_waits sc_Member.waits b_Member.waits (fun hr => d_Member.waits T hr) (pureP_len hl) ?_
    rintro ds M R ⟨rfl, d, ⟨q, rfl, rfl⟩, rfl⟩
    unfold t_Member.waits
    walk_at "ev"
    rfl
  | delay =>
    refine metD T.fn_Delay_waits T.cl_Delay T.me_Delay_waits sc_Delay.waits b_Delay.waits (fun hr => d_Delay.waits T hr) (pureP_len hl) ?_
    rintro ds M R ⟨rfl, d, ⟨q, rfl, rfl⟩, rfl⟩
    unfold t_Delay.waits
    walk_at "ev"
    rfl
theorem m_kept (T : Tx K mg) (k : Kd) : Met P w K mg base 1 (He.ga K k.cls) "kept" (spD K (sKept K k)) [] := by
  cases k
  · exact m_Last_kept T
  · exact m_First_kept T
  · exact m_Limit_kept T
  · exact m_Delay_kept T
/-! ### isinstance of members -/
theorem kitAny_f {K : PySem.W.Frag} {t c : Value} {r : List Value} {b : Bool} (h : PySem.W.kitOne K t c = some false) (k : PySem.W.kitAny K t r = some b) : PySem.W.kitAny K t (c :: r) = some b := by
  unfold PySem.W.kitAny; rw [h]; exact k
theorem kitAny_t {K : PySem.W.Frag} {t c : Value} {r : List Value} (h : PySem.W.kitOne K t c = some true) : PySem.W.kitAny K t (c :: r) = some true := by
  unfold PySem.W.kitAny; rw [h]
theorem ty_mb (T : Tx K mg) {M : Mem} (k : Kd) (q : Int) : TyD K M (mbD K k q) (.ref (He.ga K k.cls)) := by
  cases k
  · exact .ins (.ins _ _) fun e => T.isi (x := "Last") (by simp [insN]) T.cl_Last e
  · exact .ins (.ins _ _) fun e => T.isi (x := "First") (by simp [insN]) T.cl_First e
  · exact .ins (.ins _ _) fun e => T.isi (x := "Limit") (by simp [insN]) T.cl_Limit e
  · exact .ins (.ins _ _) fun e => T.isi (x := "Delay") (by simp [insN]) T.cl_Delay e
theorem kit_k (T : Tx K mg) (k l : Kd) (hk : k ≠ .limit) : PySem.W.kitOne K (.ref (He.ga K k.cls)) (.ref (He.ga K l.cls)) = some (decide (k = l)) := by
  cases k <;> cases l <;> first | exact absurd rfl hk | exact T.kit _ _ _ (by simp [kits, Kd.cls])
theorem kit_all (T : Tx K mg) (k : Kd) (hk : k ≠ .limit) : PySem.W.kitAny K (.ref (He.ga K k.cls)) [.ref (He.ga K "Last"), .ref (He.ga K "First"), .ref (He.ga K "Limit"), .ref (He.ga K "Delay")] = some true := by
  cases k with
  | limit => exact absurd rfl hk
  | last => exact kitAny_t (kit_k T .last .last hk)
  | first => exact kitAny_f (kit_k T .first .last hk) (kitAny_t (kit_k T .first .first hk))
  | delay => exact kitAny_f (kit_k T .delay .last hk) (kitAny_f (kit_k T .delay .first hk) (kitAny_f (kit_k T .delay .limit hk) (kitAny_t (kit_k T .delay .delay hk))))
def sIsMember (K : PySem.W.Frag) : List D → D → Prop := fun ds d => ∃ m : Mb, ds = [mD K m] ∧ m.k ≠ .limit ∧ d = .bl true
theorem c_is_member (T : Tx K mg) : Cal P w K mg base 1 "is_member" (spD K (sIsMember K)) [] := by
  refine calD T.fn_is_member T.mg_is_member sc_is_member b_is_member (fun hr => d_is_member T hr) (pureP_len ?_) ?_
  · rintro ds d ⟨m, rfl, _, rfl⟩; rfl
  · rintro ds M R ⟨rfl, d, ⟨m, rfl, hk, rfl⟩, rfl⟩
    unfold t_is_member
    walk_at "ev"
    refine ol_isiT (ty_mb T m.k m.q) (.cons (.own _) (.cons (.own _) (.cons (.own _) (.cons (.own _) .nil)))) (kit_all T m.k hk) ?_
    rfl
/-! ### speakers -/
def spkStep (k : Kd) (kept : List Nat) (a place : Nat) : Nat :=
  if k = .last then place + (if kept.getD place 0 < a then 1 else 0) else if place + 1 < kept.length ∧ kept.getD (place + 1) 0 ≤ a then place + 1 else place
def spkP (k : Kd) (kept : List Nat) : Nat → Nat
  | 0 => 0
  | i + 1 => spkStep k kept i (spkP k kept i)
def spkL (k : Kd) (n : Nat) (kept : List Nat) : List Nat := (List.range n).map fun i => spkP k kept (i + 1)
def sSpeakers (K : PySem.W.Frag) : List D → D → Prop := fun ds d => ∃ (m : Mb) (n : Nat) (kept : List Nat), ds = [mD K m, nat n, .lst (naD kept)] ∧ m.k ≠ .limit ∧ n ≤ 99999 ∧ (∀ i, i < n → spkP m.k kept i < kept.length) ∧ d = .lst (naD (spkL m.k n kept))
theorem spkL_succ (k : Kd) (n : Nat) (kept : List Nat) : spkL k (n + 1) kept = spkL k n kept ++ [spkP k kept (n + 1)] := by
  unfold spkL
  rw [range_snoc, List.map_append]; rfl
theorem c_speakers (T : Tx K mg) : Cal P w K mg base 1 "speakers" (spD K (sSpeakers K)) [] := by
  refine calD T.fn_speakers T.mg_speakers sc_speakers b_speakers (fun hr => d_speakers T hr) (pureP_len ?_) ?_
  · rintro ds d ⟨m, n, kept, rfl, _, _, _, rfl⟩; rfl
  · rintro ds M R ⟨rfl, d, ⟨m, n, kept, rfl, hk, hn, hs, rfl⟩, rfl⟩
    unfold t_speakers
    refine st_seq (st_par (ear_c (evr_lstO (ear_nil ⟨Nat.zero_le _, fun p hp => ?_⟩))))
    walk_at "ev"
    refine st_for (is := [5]) (itr_rng1 ?_)
    walk_at "ev"
    refine ⟨⟨by omega, by omega⟩, ?_⟩
    rw [Int.toNat_natCast, rgD_map]
    refine ⟨fun i ρ' M' => M' = [(p, .lst (naD (spkL m.k i kept)))] ∧ ∃ a, ρ' = [some (mD K m), some (nat n), some (.lst (naD kept)), some (.loc p), some (nat (spkP m.k kept i)), a], ⟨rfl, _, rfl⟩, ?_, ?_⟩
    · rintro i d ρ' M' hd ⟨rfl, a, rfl⟩
      obtain ⟨hi, rfl⟩ := map_get 0 hd
      rw [List.length_range] at hi
      have e : (List.range n).getD i 0 = i := by rw [List.getD_eq_getElem?_getD, List.getElem?_range hi]; rfl
      rw [e]
      have hs1 := hs i hi
      have hlen : (spkL m.k i kept).length = i := by unfold spkL; rw [List.length_map, List.length_range]
      have hsn : spkP m.k kept (i + 1) = spkStep m.k kept i (spkP m.k kept i) := rfl
      have hL := spkL_succ m.k i kept
      have fin : ∀ (pl : Nat) (j : Int), pl = spkStep m.k kept i (spkP m.k kept i) → j = (pl : Int) → ([(p, DO.lst (naD (spkL m.k i kept) ++ [.int j]))] : Mem) = [(p, .lst (naD (spkL m.k (i + 1) kept)))] ∧ ∃ a, ([some (mD K m), some (nat n), some (.lst (naD kept)), some (.loc p), some (.int j), some (nat i)] : Sl) = [some (mD K m), some (nat n), some (.lst (naD kept)), some (.loc p), some (nat (spkP m.k kept (i + 1))), a] := by
        rintro pl j rfl rfl
        exact ⟨by rw [hL, naD_snoc, hsn], _, rfl⟩
      walk_at "ev"
      refine ol_isi (ty_mb T m.k m.q) (.own _) (kit_k T m.k .last hk) ?_
      walk_at "ev"
      refine itD (fun h => ?_) (fun h => ?_)
      · walk_at "ev"
        refine o2_ixN (spkP m.k kept i) rfl hs1 ?_
        walk_at "ev"
        · rw [List.length_map]; omega
        · refine fin _ _ rfl ?_
          unfold spkStep
          rw [if_pos h]
          by_cases hc : kept.getD (spkP m.k kept i) 0 < i
          · rw [if_pos hc, if_pos (decide_eq_true (by omega))]; omega
          · rw [if_neg hc, if_neg (by rw [decide_eq_true_eq]; omega)]; omega
      · walk_at "ev"
        refine itD (fun h1 => ?_) (fun h1 => ?_)
        · rw [List.length_map] at h1
          walk_at "ev"
          refine o2_ixN (spkP m.k kept i + 1) (by omega) (by omega) ?_
          walk_at "ev"
          refine itD (fun h2 => ?_) (fun h2 => ?_)
          · walk_at "ev"
            · rw [List.length_map]; omega
            · refine fin _ _ rfl ?_
              unfold spkStep
              rw [if_neg h, if_pos ⟨by omega, by omega⟩]; omega
          · walk_at "ev"
            · rw [List.length_map]; omega
            · refine fin _ _ rfl ?_
              unfold spkStep
              rw [if_neg h, if_neg (by omega)]
        · rw [List.length_map] at h1
          walk_at "ev"
          · rw [List.length_map]; omega
          · refine fin _ _ rfl ?_
            unfold spkStep
            rw [if_neg h, if_neg (by omega)]
    · rintro ρ' M' ⟨rfl, a, rfl⟩
      rw [List.length_map, List.length_range]
      refine st_frz (i := 3) rfl (List.Perm.refl _) ?_
      walk_at "ev"
      rfl
end

/-! #### W3 -/
section
variable {P : Program} {w : World} {K : PySem.W.Frag} {mg : Str → Option Value} {base : Heap}
/-! ### making members and rows -/
def pMember (k : Kd) : List D → List (Str × D) → Prop := fun ds fs => ∃ q : Int, ds = [.int q] ∧ (if k = .delay then 0 ≤ q else 1 ≤ q) ∧ fs = [(k.fld, .int q)]
theorem k_Member (T : Tx K mg) (k : Kd) : Mak P w K mg base 2 k.cls (He.ga K k.cls) (spI K (He.ga K k.cls) (pMember k)) [] := by
  have hl : ∀ ds fs, pMember k ds fs → ds.length + 1 = 2 := by rintro ds fs ⟨q, rfl, _, rfl⟩; rfl
  cases k with
  | last =>
    refine makD T.fn_Last_D_initD_ T.mk_Last T.mg_Last sc_MemberD__initD_ b_MemberD__initD_ (fun hr => d_MemberD__initD_ T hr) (initP_len hl) ?_
    rintro ds M R ⟨y, ds', fs, rfl, rfl, ⟨q, rfl, hq, rfl⟩, rfl⟩
    unfold t_MemberD__initD_
    walk_at "ev"
    refine evr_call (c_is_number T) (by decide) ?_
    walk_at "ev"
    refine ⟨_, ⟨_, rfl, rfl⟩, ?_⟩
    walk_at "ev"
    refine itN (by have : 1 ≤ q := hq; omega) ?_
    walk_at "ev"
    exact ⟨rfl, rfl⟩
  | first =>
    refine makD T.fn_First_D_initD_ T.mk_First T.mg_First sc_MemberD__initD_ b_MemberD__initD_ (fun hr => d_MemberD__initD_ T hr) (initP_len hl) ?_
    rintro ds M R ⟨y, ds', fs, rfl, rfl, ⟨q, rfl, hq, rfl⟩, rfl⟩
    unfold t_MemberD__initD_
    walk_at "ev"
    refine evr_call (c_is_number T) (by decide) ?_
    walk_at "ev"
    refine ⟨_, ⟨_, rfl, rfl⟩, ?_⟩
    walk_at "ev"
    refine itN (by have : 1 ≤ q := hq; omega) ?_
    walk_at "ev"
    exact ⟨rfl, rfl⟩
  | limit =>
    refine makD T.fn_Limit_D_initD_ T.mk_Limit T.mg_Limit sc_MemberD__initD_ b_MemberD__initD_ (fun hr => d_MemberD__initD_ T hr) (initP_len hl) ?_
    rintro ds M R ⟨y, ds', fs, rfl, rfl, ⟨q, rfl, hq, rfl⟩, rfl⟩
    unfold t_MemberD__initD_
    walk_at "ev"
    refine evr_call (c_is_number T) (by decide) ?_
    walk_at "ev"
    refine ⟨_, ⟨_, rfl, rfl⟩, ?_⟩
    walk_at "ev"
    refine itN (by have : 1 ≤ q := hq; omega) ?_
    walk_at "ev"
    exact ⟨rfl, rfl⟩
  | delay =>
    refine makD T.fn_Delay_D_initD_ T.mk_Delay T.mg_Delay sc_DelayD__initD_ b_DelayD__initD_ (fun hr => d_DelayD__initD_ T hr) (initP_len hl) ?_
    rintro ds M R ⟨y, ds', fs, rfl, rfl, ⟨q, rfl, hq, rfl⟩, rfl⟩
    unfold t_DelayD__initD_
    walk_at "ev"
    refine evr_call (c_is_number T) (by decide) ?_
    walk_at "ev"
    refine ⟨_, ⟨_, rfl, rfl⟩, ?_⟩
    walk_at "ev"
    refine itN (by have : 0 ≤ q := hq; omega) ?_
    walk_at "ev"
    exact ⟨rfl, rfl⟩
/-- no Limit -/
def NoL (ms : List Mb) : Prop := ∀ m ∈ ms, m.k ≠ .limit
abbrev rowD (K : PySem.W.Frag) (ms : List Mb) : D := .ins (He.ga K "Row") [("members", .tup (ms.map (mD K)))]
theorem getD_mem {α : Type} {xs : List α} {i : Nat} (a : α) (h : i < xs.length) : xs.getD i a ∈ xs := by
  rw [List.getD_eq_getElem?_getD, List.getElem?_eq_getElem h]; exact List.getElem_mem h
def pRow (K : PySem.W.Frag) : List D → List (Str × D) → Prop := fun ds fs => ∃ ms : List Mb, ds = [.lst (ms.map (mD K))] ∧ NoL ms ∧ fs = ([("members", .tup (ms.map (mD K)))] : List (Str × D))
theorem k_Row (T : Tx K mg) : Mak P w K mg base 2 "Row" (He.ga K "Row") (spI K (He.ga K "Row") (pRow K)) [] := by
  refine makD T.fn_Row_D_initD_ T.mk_Row T.mg_Row sc_RowD__initD_ b_RowD__initD_ (fun hr => d_RowD__initD_ T hr) (initP_len ?_) ?_
  · rintro ds fs ⟨ms, rfl, _, rfl⟩; rfl
  rintro ds M R ⟨y, ds', fs, rfl, rfl, ⟨ms, rfl, hl, rfl⟩, rfl⟩
  unfold t_RowD__initD_
  walk_at "ev"
  refine ol_isiT (.lst _) (.cons (.ty _) (.cons (.ty _) .nil)) (b := true) (by rfl) ?_
  walk_at "ev"
  refine ⟨_, _, .lst _, (fun e => nomatch e), ?_⟩
  walk_at "ev"
  refine st_for (is := is2 2 3) (itr_enumX ?_)
  walk_at "ev"
  refine ⟨_, _, _, rfl, .tup _, ?_⟩
  rw [enD_map]
  refine ⟨fun i ρ' M' => M' = [(y, .ins (He.ga K "Row") [("members", .tup (ms.map (mD K)))])] ∧ ∃ a b, ρ' = [some (.loc y), some (.lst (ms.map (mD K))), a, b], ⟨rfl, _, _, rfl⟩, ?_, ?_⟩
  · rintro i d ρ' M' hd ⟨rfl, a, b, rfl⟩
    obtain ⟨hi, rfl⟩ := enM_get ⟨.last, 0⟩ hd
    walk_at "ev"
    refine evr_call (c_is_member T) (by decide) ?_
    walk_at "ev"
    refine ⟨_, ⟨_, rfl, hl _ (getD_mem _ hi), rfl⟩, ?_⟩
    walk_at "ev"
    exact ⟨rfl, _, _, rfl⟩
  · rintro ρ' M' ⟨rfl, a, b, rfl⟩
    exact ⟨rfl, rfl⟩
/-! ### delays -/
def late (ms : List Mb) : Int := (ms.map wt).sum
def sDelays (K : PySem.W.Frag) : List D → D → Prop := fun ds d => ∃ ms : List Mb, ds = [rowD K ms] ∧ NoL ms ∧ ms.length ≤ 100000 ∧ d = .int (late ms)
theorem look_w (k : Kd) (q : Int) (m : Str) (h : m = "waits" ∨ m = "kept" ∨ m = "class_name") : ([(k.fld, D.int q)] : List (Str × D)).lookup m = none := by
  rcases h with rfl | rfl | rfl <;> cases k <;> rfl
theorem m_delays (T : Tx K mg) : Met P w K mg base 2 (He.ga K "Row") "delays" (spD K (sDelays K)) [] := by
  refine metD T.fn_Row_delays T.cl_Row T.me_Row_delays sc_Row.delays b_Row.delays (fun hr => d_Row.delays T hr) (pureP_len ?_) ?_
  · rintro ds d ⟨ms, rfl, _, _, rfl⟩; rfl
  rintro ds M R ⟨rfl, d, ⟨ms, rfl, hl, hn, rfl⟩, rfl⟩
  unfold t_Row.delays
  walk_at "ev"
  refine evr_lcm (α := Mb) (is := [1]) (by decide) (itr_seq ?_)
  walk_at "ev"
  refine ⟨_, _, .tup _, ms, mD K, fun m => .int (wt m), rfl, hn, ?_, ?_⟩
  · intro m hm
    walk_at "ev"
    refine ev_meth ?_
    walk_at "ev"
    refine ⟨_, _, 1, _, .ins _ _, look_w _ _ _ (.inl rfl), m_waits T m.k (hl m hm), by decide, ?_⟩
    walk_at "ev"
    exact ⟨_, ⟨_, rfl, rfl⟩, rfl, rfl⟩
  · walk_at "ev"
    refine ol_sum (ns := ms.map wt) ?_ ?_
    · rw [show (ms.map wt).map D.int = ms.map (fun m => D.int (wt m)) from List.map_map]; exact .lst _
    · rfl
/-! ### the kept numbers -/
theorem lim_lt' (q : Int) (ns : List Int) : ∀ x ∈ keptLim q ns, x < ns.length := lim_lt q ns ns.length
theorem kept_lt (k : Kd) (q : Int) (ns : List Int) : ∀ x ∈ keptK k q ns, x < ns.length := by
  intro x h
  cases k with
  | limit => exact lim_lt' q ns x h
  | delay => exact List.mem_range.mp h
  | last => exact List.mem_range.mp (List.mem_filter.mp h).1
  | first => exact List.mem_range.mp (List.mem_filter.mp h).1
theorem kept_len (k : Kd) (q : Int) (ns : List Int) : (keptK k q ns).length ≤ ns.length := by
  cases k with
  | limit => exact lim_len q ns ns.length
  | delay => show (List.range ns.length).length ≤ _; rw [List.length_range]; exact Nat.le_refl _
  | last => exact Nat.le_trans (List.length_filter_le _ _) (Nat.le_of_eq List.length_range)
  | first => exact Nat.le_trans (List.length_filter_le _ _) (Nat.le_of_eq List.length_range)
abbrev timesOf (s : List Int) (nums : List Nat) : List Int := nums.map fun n => s.getD n 0
def stepN (s : List Int) (nums : List Nat) (m : Mb) : List Nat := (keptK m.k m.q (timesOf s nums)).map fun a => nums.getD a 0
def keptNums (ms : List Mb) (s : List Int) : List Nat := ms.foldl (stepN s) (List.range s.length)
theorem stepN_lt {s : List Int} {nums : List Nat} {m : Mb} (h : ∀ x ∈ nums, x < s.length) : ∀ x ∈ stepN s nums m, x < s.length := by
  intro x hx
  obtain ⟨a, ha, rfl⟩ := List.mem_map.mp hx
  have := kept_lt _ _ _ a ha
  rw [List.length_map] at this
  exact h _ (getD_mem _ this)
theorem stepN_len {s : List Int} {nums : List Nat} {m : Mb} : (stepN s nums m).length ≤ nums.length := by
  unfold stepN
  rw [List.length_map]
  have := kept_len m.k m.q (timesOf s nums)
  rw [List.length_map] at this
  exact this
theorem foldN (s : List Int) (ms : List Mb) : (∀ x ∈ ms.foldl (stepN s) (List.range s.length), x < s.length) ∧ (ms.foldl (stepN s) (List.range s.length)).length ≤ s.length := by
  suffices ∀ (ms : List Mb) (nums : List Nat), (∀ x ∈ nums, x < s.length) → nums.length ≤ s.length → (∀ x ∈ ms.foldl (stepN s) nums, x < s.length) ∧ (ms.foldl (stepN s) nums).length ≤ s.length from this ms _ (fun x h => List.mem_range.mp h) (Nat.le_of_eq List.length_range)
  intro ms
  induction ms with
  | nil => intro nums h1 h2; exact ⟨h1, h2⟩
  | cons m ms ih => intro nums h1 h2; exact ih _ (stepN_lt h1) (Nat.le_trans stepN_len h2)
theorem take_succ_getD {α : Type} {xs : List α} {i : Nat} (a : α) (h : i < xs.length) : xs.take (i + 1) = xs.take i ++ [xs.getD i a] := by
  rw [List.take_succ, List.getElem?_eq_getElem h, List.getD_eq_getElem?_getD, List.getElem?_eq_getElem h]; rfl
theorem foldl_take {α β : Type} {f : β → α → β} {xs : List α} {i : Nat} {b : β} (a : α) (h : i < xs.length) : (xs.take (i + 1)).foldl f b = f ((xs.take i).foldl f b) (xs.getD i a) := by
  rw [take_succ_getD a h, List.foldl_append]; rfl
def sKeptNumbers (K : PySem.W.Frag) : List D → D → Prop := fun ds d => ∃ (ms : List Mb) (s : List Int), ds = [rowD K ms, .lst (inD s)] ∧ s.length ≤ 100000 ∧ d = .lst (naD (keptNums ms s))
theorem c_kept_numbers (T : Tx K mg) : Cal P w K mg base 2 "kept_numbers" (spD K (sKeptNumbers K)) [] := by
  refine calD T.fn_kept_numbers T.mg_kept_numbers sc_kept_numbers b_kept_numbers (fun hr => d_kept_numbers T hr) (pureP_len ?_) ?_
  · rintro ds d ⟨ms, s, rfl, _, rfl⟩; rfl
  rintro ds M R ⟨rfl, d, ⟨ms, s, rfl, hn, rfl⟩, rfl⟩
  unfold t_kept_numbers
  walk_at "ev"
  rw [List.length_map]
  refine ⟨by omega, by omega, ?_⟩
  rw [Int.toNat_natCast, rgD_map]
  walk_at "ev"
  refine st_for (is := [3]) (itr_seq ?_)
  walk_at "ev"
  refine ⟨_, _, .tup _, ?_⟩
  refine ⟨fun i ρ' M' => M' = [] ∧ ∃ a b c, ρ' = [some (rowD K ms), some (.lst (inD s)), some (.lst (naD ((ms.take i).foldl (stepN s) (List.range s.length)))), a, b, c], ⟨rfl, _, _, _, rfl⟩, ?_, ?_⟩
  · rintro i d ρ' M' hd ⟨rfl, a, b, c, rfl⟩
    obtain ⟨hi, rfl⟩ := map_get ⟨.last, 0⟩ hd
    obtain ⟨h1, h2⟩ := foldN s (ms.take i)
    have he := foldl_take (f := stepN s) (b := List.range s.length) ⟨.last, 0⟩ hi
    generalize (ms.take i).foldl (stepN s) (List.range s.length) = nums at h1 h2 he ⊢
    generalize ms.getD i ⟨.last, 0⟩ = m at he ⊢
    walk_at "ev"
    refine evr_lcm (α := Nat) (is := [4]) (by decide) (itr_seq (ev_meth ?_))
    walk_at "ev"
    refine ⟨_, _, 1, _, .ins _ _, look_w _ _ _ (.inr (.inl rfl)), m_kept T m.k, by decide, ?_⟩
    walk_at "ev"
    refine evr_lcm (α := Nat) (is := [5]) (by decide) (itr_seq ?_)
    walk_at "ev"
    refine ⟨_, _, .lst _, nums, nat, fun n => .int (s.getD n 0), rfl, by omega, ?_, ?_⟩
    · intro n hm
      walk_at "ev"
      refine o2_ixI n rfl (h1 n hm) ?_
      exact ⟨rfl, rfl⟩
    · walk_at "ev"
      refine ⟨_, ⟨m.q, timesOf s nums, ?_, ?_, rfl⟩, ?_⟩
      · rw [show inD (timesOf s nums) = nums.map (fun n => D.int (s.getD n 0)) from List.map_map]
      · rw [List.length_map]; omega
      refine ⟨_, _, .lst _, keptK m.k m.q (timesOf s nums), nat, fun a => nat (nums.getD a 0), rfl, ?_, ?_, ?_⟩
      · have := kept_len m.k m.q (timesOf s nums)
        rw [List.length_map] at this
        omega
      · intro a ha
        have := kept_lt m.k m.q (timesOf s nums) a ha
        rw [List.length_map] at this
        walk_at "ev"
        refine o2_ixN a rfl this ?_
        exact ⟨rfl, rfl⟩
      · refine ⟨rfl, some (mD K m), b, c, ?_⟩
        rw [he]
        unfold stepN
        rw [show naD ((keptK m.k m.q (timesOf s nums)).map fun a => nums.getD a 0) = (keptK m.k m.q (timesOf s nums)).map (fun a => nat (nums.getD a 0)) from List.map_map]
        rfl
  · rintro ρ' M' ⟨rfl, a, b, c, rfl⟩
    rw [List.length_map, List.take_length]
    walk_at "ev"
    rfl
def sToldTimes (K : PySem.W.Frag) : List D → D → Prop := fun ds d => ∃ (ms : List Mb) (s : List Int), ds = [rowD K ms, .lst (inD s)] ∧ NoL ms ∧ ms.length ≤ 100000 ∧ Up s ∧ s.length ≤ 100000 ∧ d = .lst (inD ((keptNums ms s).map fun n => s.getD n 0 + late ms))
theorem c_told_times (T : Tx K mg) : Cal P w K mg base 3 "told_times" (spD K (sToldTimes K)) [] := by
  refine calD T.fn_told_times T.mg_told_times sc_told_times b_told_times (fun hr => d_told_times T hr) (pureP_len ?_) ?_
  · rintro ds d ⟨ms, s, rfl, _, _, _, _, rfl⟩; rfl
  rintro ds M R ⟨rfl, d, ⟨ms, s, rfl, hl, hm, hu, hn, rfl⟩, rfl⟩
  unfold t_told_times
  walk_at "ev"
  refine evr_call (c_check_stream T) (by decide) ?_
  walk_at "ev"
  refine ⟨_, ⟨s, rfl, hu, rfl⟩, ?_⟩
  walk_at "ev"
  refine ev_meth ?_
  walk_at "ev"
  refine ⟨_, _, 2, _, .ins _ _, rfl, m_delays T, by decide, ?_⟩
  walk_at "ev"
  refine ⟨_, ⟨ms, rfl, hl, hm, rfl⟩, ?_⟩
  walk_at "ev"
  obtain ⟨h1, h2⟩ := foldN s ms
  refine evr_lcm (α := Nat) (is := [3]) (by decide) (itr_seq (evr_call (c_kept_numbers T) (by decide) ?_))
  walk_at "ev"
  refine ⟨_, ⟨ms, s, rfl, hn, rfl⟩, _, _, .lst _, keptNums ms s, nat, fun n => .int (s.getD n 0 + late ms), rfl, Nat.le_trans h2 hn, ?_, ?_⟩
  · intro n hm
    walk_at "ev"
    refine o2_ixI n rfl (h1 n hm) ?_
    walk_at "ev"
    exact ⟨rfl, rfl⟩
  · show _ = D.lst _
    rw [show inD ((keptNums ms s).map fun n => s.getD n 0 + late ms) = (keptNums ms s).map (fun n => D.int (s.getD n 0 + late ms)) from List.map_map]
end

/-! #### W4 -/
section
variable {P : Program} {w : World} {K : PySem.W.Frag} {mg : Str → Option Value} {base : Heap}
def toldF (a b c d : D) : List (Str × D) := [("number", a), ("time", b), ("first", c), ("last", d)]
def pTold : List D → List (Str × D) → Prop := fun ds fs => ∃ a b c d, ds = [a, b, c, d] ∧ fs = toldF a b c d
theorem k_Told (T : Tx K mg) : Mak P w K mg base 1 "Told" (He.ga K "Told") (spI K (He.ga K "Told") pTold) [] := by
  refine makD T.fn_Told_D_initD_ T.mk_Told T.mg_Told sc_ToldD__initD_ b_ToldD__initD_ (fun hr => d_ToldD__initD_ T hr) (initP_len ?_) ?_
  · rintro ds fs ⟨a, b, c, d, rfl, rfl⟩; rfl
  rintro ds M R ⟨y, ds', fs, rfl, rfl, ⟨a, b, c, d, rfl, rfl⟩, rfl⟩
  unfold t_ToldD__initD_
  walk_at "ev"
  exact ⟨rfl, rfl⟩
/-! ### who speaks -/
structure Vs where
  nums : List Nat
  vs : List Nat
def stepV (s : List Int) (x : Vs) (m : Mb) : Vs :=
  let kept := keptK m.k m.q (timesOf s x.nums)
  let places := spkL m.k x.nums.length kept
  ⟨kept.map fun a => x.nums.getD a 0, x.vs.map fun v => places.getD v 0⟩
def foldV (ms : List Mb) (s : List Int) : Vs := ms.foldl (stepV s) ⟨List.range s.length, List.range s.length⟩
def hdF (vs : List Nat) : Nat → Nat → Option Nat
  | 0, _ => none
  | i + 1, v => if v = vs.getD i 0 then some ((hdF vs i v).getD i) else hdF vs i v
def tlF (vs : List Nat) : Nat → Nat → Option Nat
  | 0, _ => none
  | i + 1, v => if v = vs.getD i 0 then some i else tlF vs i v
/-- what a walk over the members asks of the voices -/
def VOk (s : List Int) (x : Vs) : Prop := (∀ n ∈ x.nums, n < s.length) ∧ x.nums.length ≤ s.length ∧ x.vs.length = s.length ∧ ∀ v ∈ x.vs, v < x.nums.length
/-- .. and of a member at it -/
def SOk (s : List Int) (x : Vs) (m : Mb) : Prop := ∀ i, i < x.nums.length → spkP m.k (keptK m.k m.q (timesOf s x.nums)) i < (keptK m.k m.q (timesOf s x.nums)).length
abbrev toldD (K : PySem.W.Frag) (x : Nat × Int × Nat × Nat) : D := .ins (He.ga K "Told") (toldF (nat x.1) (.int x.2.1) (nat x.2.2.1) (nat x.2.2.2))
def toldM (ms : List Mb) (s : List Int) : List (Nat × Int × Nat × Nat) :=
  (foldV ms s).nums.zipIdx.map fun p => (p.1, s.getD p.1 0 + late ms, (hdF (foldV ms s).vs s.length p.2).getD 0, (tlF (foldV ms s).vs s.length p.2).getD 0)
def sToldEvents (K : PySem.W.Frag) : List D → D → Prop := fun ds d => ∃ (ms : List Mb) (s : List Int), ds = [rowD K ms, .lst (inD s)] ∧ NoL ms ∧ ms.length ≤ 100000 ∧ Up s ∧ s.length ≤ 90000 ∧
  (∀ i, i < ms.length → VOk s ((ms.take i).foldl (stepV s) ⟨List.range s.length, List.range s.length⟩) ∧ SOk s ((ms.take i).foldl (stepV s) ⟨List.range s.length, List.range s.length⟩) (ms.getD i ⟨.last, 0⟩)) ∧
  VOk s (foldV ms s) ∧ (∀ v, v < (foldV ms s).nums.length → (hdF (foldV ms s).vs s.length v).isSome = true ∧ (tlF (foldV ms s).vs s.length v).isSome = true) ∧ d = .lst ((toldM ms s).map (toldD K))
theorem valD_put {κ : Type} [DecidableEq κ] (k l : κ) (v : D) : ∀ kvs : List (κ × D), valD (putKD kvs k v) l = if k = l then some v else valD kvs l := by
  intro kvs
  unfold putKD
  by_cases ha : (kvs.any fun kv => decide (kv.1 = k)) = true
  · rw [if_pos ha]
    unfold valD
    induction kvs with
    | nil => cases ha
    | cons p kvs ih =>
      rw [List.map_cons, List.find?_cons, List.find?_cons]
      by_cases hp : p.1 = k
      · rw [if_pos hp]
        by_cases hkl : k = l
        · subst hkl; simp [hp]
        · have : ¬ p.1 = l := fun e => hkl (hp ▸ e)
          simp only [this, decide_false, if_neg hkl]
          by_cases hr : (kvs.any fun kv => decide (kv.1 = k)) = true
          · have := ih hr
            rw [if_neg hkl] at this
            exact this
          · have hid : kvs.map (fun kv => if kv.1 = k then (kv.1, v) else kv) = kvs := by
              have hr' : ∀ kv ∈ kvs, ¬ kv.1 = k := fun kv hm e => hr (List.any_eq_true.mpr ⟨kv, hm, decide_eq_true e⟩)
              conv => rhs; rw [← List.map_id kvs]
              exact List.map_congr_left fun kv hm => if_neg (hr' kv hm)
            rw [hid]
      · rw [if_neg hp]
        have hr : (kvs.any fun kv => decide (kv.1 = k)) = true := by
          rw [List.any_cons, decide_eq_false hp, Bool.false_or] at ha; exact ha
        have := ih hr
        by_cases hpl : p.1 = l
        · have hkl : ¬ k = l := fun e => hp (hpl.trans e.symm)
          simp only [hpl, decide_true, if_neg hkl]
        · simp only [hpl, decide_false]
          exact this
  · rw [if_neg ha]
    have hr' : ∀ kv ∈ kvs, ¬ kv.1 = k := fun kv hm e => ha (List.any_eq_true.mpr ⟨kv, hm, decide_eq_true e⟩)
    unfold valD
    rw [List.find?_append]
    by_cases hkl : k = l
    · subst hkl
      have hn : kvs.find? (fun kv => decide (kv.1 = k)) = none := List.find?_eq_none.mpr fun kv hm => by rw [decide_eq_true_eq]; exact hr' kv hm
      rw [hn, if_pos rfl]
      simp
    · rw [if_neg hkl]
      cases kvs.find? (fun kv => decide (kv.1 = l)) with
      | some x => rfl
      | none => simp [hkl]
theorem putKD_len {κ : Type} [DecidableEq κ] (kvs : List (κ × D)) (k : κ) (v : D) : (putKD kvs k v).length ≤ kvs.length + 1 := by
  unfold putKD
  split
  · rw [List.length_map]; omega
  · rw [List.length_append]; exact Nat.le_refl _
theorem c_told_events (T : Tx K mg) : Cal P w K mg base 3 "told_events" (spD K (sToldEvents K)) [] := by
  refine calD T.fn_told_events T.mg_told_events sc_told_events b_told_events (fun hr => d_told_events T hr) (pureP_len ?_) ?_
  · rintro ds d ⟨ms, s, rfl, _, _, _, _, _, _, _, rfl⟩; rfl
  rintro ds M R ⟨rfl, d, ⟨ms, s, rfl, hl, hm, hu, hn, hv, hvf, hsome, rfl⟩, rfl⟩
  unfold t_told_events
  walk_at "ev"
  refine evr_call (c_check_stream T) (by decide) ?_
  walk_at "ev"
  refine ⟨_, ⟨s, rfl, hu, rfl⟩, ?_⟩
  walk_at "ev"
  refine st_asg (is := is2 2 3) ?_
  walk_at "ev"
  rw [List.length_map]
  refine ⟨by omega, by omega, ?_⟩
  rw [Int.toNat_natCast, rgD_map]
  walk_at "ev"
  rw [List.length_map]
  refine ⟨by omega, by omega, ?_⟩
  rw [Int.toNat_natCast, rgD_map]
  walk_at "ev"
  refine st_for (is := [4]) (itr_seq ?_)
  walk_at "ev"
  refine ⟨_, _, .tup _, ?_⟩
  refine ⟨fun i ρ' M' => M' = [] ∧ ∃ a4 a5 a6 a7 a8 a9 a10 a11 a12, ρ' = [some (rowD K ms), some (.lst (inD s)), some (.lst (naD ((ms.take i).foldl (stepV s) ⟨List.range s.length, List.range s.length⟩).nums)), some (.lst (naD ((ms.take i).foldl (stepV s) ⟨List.range s.length, List.range s.length⟩).vs)), a4, a5, a6, a7, a8, a9, a10, a11, a12], ⟨rfl, _, _, _, _, _, _, _, _, _, rfl⟩, ?_, ?_⟩
  · rintro i d ρ' M' hd ⟨rfl, a4, a5, a6, a7, a8, a9, a10, a11, a12, rfl⟩
    obtain ⟨hi, rfl⟩ := map_get ⟨.last, 0⟩ hd
    obtain ⟨⟨h1, h2, h3, h4⟩, h5⟩ := hv i hi
    have he := foldl_take (f := stepV s) (b := ⟨List.range s.length, List.range s.length⟩) ⟨.last, 0⟩ hi
    have hml := hl _ (getD_mem ⟨.last, 0⟩ hi)
    generalize (ms.take i).foldl (stepV s) ⟨List.range s.length, List.range s.length⟩ = x at h1 h2 h3 h4 h5 he ⊢
    generalize ms.getD i ⟨.last, 0⟩ = m at he h5 hml ⊢
    walk_at "ev"
    refine ev_meth ?_
    walk_at "ev"
    refine ⟨_, _, 1, _, .ins _ _, look_w _ _ _ (.inr (.inl rfl)), m_kept T m.k, by decide, ?_⟩
    walk_at "ev"
    refine evr_lcm (α := Nat) (is := [12]) (by decide) (itr_seq ?_)
    walk_at "ev"
    refine ⟨_, _, .lst _, x.nums, nat, fun n => .int (s.getD n 0), rfl, by omega, ?_, ?_⟩
    · intro n hm
      walk_at "ev"
      refine o2_ixI n rfl (h1 n hm) ?_
      exact ⟨rfl, rfl⟩
    have hkl := kept_len m.k m.q (timesOf s x.nums)
    have hkt := kept_lt m.k m.q (timesOf s x.nums)
    rw [List.length_map] at hkl hkt
    unfold SOk at h5
    walk_at "ev"
    refine ⟨_, ⟨m.q, timesOf s x.nums, ?_, ?_, rfl⟩, ?_⟩
    · rw [show inD (timesOf s x.nums) = x.nums.map (fun n => D.int (s.getD n 0)) from List.map_map]
    · rw [List.length_map]; omega
    have hst : stepV s x m = ⟨(keptK m.k m.q (timesOf s x.nums)).map fun a => x.nums.getD a 0, x.vs.map fun v => (spkL m.k x.nums.length (keptK m.k m.q (timesOf s x.nums))).getD v 0⟩ := rfl
    generalize keptK m.k m.q (timesOf s x.nums) = kept at hkl hkt h5 hst ⊢
    walk_at "ev"
    refine evr_call (c_speakers T) (by decide) ?_
    walk_at "ev"
    rw [List.length_map]
    walk_at "ev"
    refine ⟨_, ⟨m, x.nums.length, kept, rfl, hml, by omega, h5, rfl⟩, ?_⟩
    have hpl : (spkL m.k x.nums.length kept).length = x.nums.length := by unfold spkL; rw [List.length_map, List.length_range]
    generalize spkL m.k x.nums.length kept = places at hpl hst ⊢
    walk_at "ev"
    refine evr_lcm (α := Nat) (is := [7]) (by decide) (itr_seq ?_)
    walk_at "ev"
    refine ⟨_, _, .lst _, x.vs, nat, fun v => nat (places.getD v 0), rfl, by omega, ?_, ?_⟩
    · intro v hm
      walk_at "ev"
      refine o2_ixN v rfl (by have := h4 v hm; omega) ?_
      exact ⟨rfl, rfl⟩
    walk_at "ev"
    refine evr_lcm (α := Nat) (is := [8]) (by decide) (itr_seq ?_)
    walk_at "ev"
    refine ⟨_, _, .lst _, kept, nat, fun a => nat (x.nums.getD a 0), rfl, by omega, ?_, ?_⟩
    · intro v hm
      walk_at "ev"
      refine o2_ixN v rfl (hkt v hm) ?_
      exact ⟨rfl, rfl⟩
    refine ⟨rfl, some (mD K m), some (.lst (naD kept)), some (.lst (naD places)), a7, a8, a9, a10, a11, a12, ?_⟩
    rw [he, hst]
    show _ = [_, _, some (D.lst (naD (List.map _ kept))), some (D.lst (naD (List.map _ x.vs))), _, _, _, _, _, _, _, _, _]
    rw [show naD (kept.map fun a => x.nums.getD a 0) = kept.map (fun a => nat (x.nums.getD a 0)) from List.map_map, show naD (x.vs.map fun v => places.getD v 0) = x.vs.map (fun v => nat (places.getD v 0)) from List.map_map]
    rfl
  · rintro ρ' M' ⟨rfl, a4, a5, a6, a7, a8, a9, a10, a11, a12, rfl⟩
    rw [List.length_map, List.take_length]
    rw [show ms.foldl (stepV s) ⟨List.range s.length, List.range s.length⟩ = foldV ms s from rfl]
    obtain ⟨h1, h2, h3, h4⟩ := hvf
    have hT : toldM ms s = (foldV ms s).nums.zipIdx.map fun p => (p.1, s.getD p.1 0 + late ms, (hdF (foldV ms s).vs s.length p.2).getD 0, (tlF (foldV ms s).vs s.length p.2).getD 0) := rfl
    rw [hT]
    generalize foldV ms s = x at h1 h2 h3 h4 hsome ⊢
    walk_at "ev"
    refine evr_dnewK fun p9 hp9 => ?_
    walk_at "ev"
    refine evr_dnewK fun p10 hp10 => ?_
    walk_at "ev"
    refine st_for (is := is2 8 7) (itr_enumX ?_)
    walk_at "ev"
    refine ⟨_, _, _, rfl, .lst _, ?_⟩
    rw [enD_map]
    have hne : p9 ≠ p10 := fun e => hp10 (p9, .dK []) (List.mem_cons_self ..) e
    refine ⟨fun i ρ' M' => (∃ hk tk : List (Key × D), M'.Perm [(p10, .dK tk), (p9, .dK hk)] ∧ hk.length ≤ i ∧ tk.length ≤ i ∧ (∀ v : Nat, valD hk (.inl (v : Int)) = (hdF x.vs i v).map nat) ∧ (∀ v : Nat, valD tk (.inl (v : Int)) = (tlF x.vs i v).map nat)) ∧ ∃ a4 a5 a6 a7 a8 a11 a12, ρ' = [some (rowD K ms), some (.lst (inD s)), some (.lst (naD x.nums)), some (.lst (naD x.vs)), a4, a5, a6, a7, a8, some (.loc p9), some (.loc p10), a11, a12], ⟨⟨[], [], List.Perm.refl _, Nat.le_refl _, Nat.le_refl _, fun _ => rfl, fun _ => rfl⟩, _, _, _, _, _, _, _, rfl⟩, ?_, ?_⟩
    · rintro i d ρ' M' hd ⟨⟨hk, tk, pm, hkl, tkl, hkv, tkv⟩, a4, a5, a6, a7, a8, a11, a12, rfl⟩
      obtain ⟨hi, rfl⟩ := enM_get 0 hd
      generalize hvi : x.vs.getD i 0 = v at hd ⊢
      walk_at "ev"
      refine StR.perm (M' := [(p10, .dK tk), (p9, .dK hk)]) ?_ pm
      refine st_dput (evr_dget2 ?_)
      walk_at "ev"
      refine ⟨_, .dK hk, rfl, by simp, trivial, ?_⟩
      walk_at "ev"
      refine ⟨.dK hk, _, _, by simp, .k hk (.inl (v : Int)), ?_⟩
      walk_at "ev"
      refine ⟨_, .dK hk, _, _, [(p10, .dK tk)], rfl, List.Perm.swap _ _ _, by show hk.length ≤ 100000; omega, .k hk (.inl (v : Int)), ?_⟩
      rw [hkv v]
      walk_at "ev"
      refine st_dput ?_
      walk_at "ev"
      refine ⟨_, .dK tk, _, _, [(p9, _)], rfl, List.Perm.swap _ _ _, by show tk.length ≤ 100000; omega, .k tk (.inl (v : Int)), ?_⟩
      refine ⟨⟨_, _, List.Perm.refl _, Nat.le_trans (putKD_len _ _ _) (by omega), Nat.le_trans (putKD_len _ _ _) (by omega), fun u => ?_, fun u => ?_⟩, a4, a5, a6, _, _, a11, a12, rfl⟩
      · rw [valD_put]
        show _ = Option.map nat (if u = x.vs.getD i 0 then some ((hdF x.vs i u).getD i) else hdF x.vs i u)
        rw [hvi]
        by_cases h : u = v
        · subst h
          rw [if_pos rfl, if_pos rfl]
          cases hdF x.vs i u <;> rfl
        · rw [if_neg h, if_neg (by intro e; injection e with e; omega), hkv u]
      · rw [valD_put]
        show _ = Option.map nat (if u = x.vs.getD i 0 then some i else tlF x.vs i u)
        rw [hvi]
        by_cases h : u = v
        · subst h
          rw [if_pos rfl, if_pos rfl]
          rfl
        · rw [if_neg h, if_neg (by intro e; injection e with e; omega), tkv u]
    · rintro ρ' M' ⟨⟨hk, tk, pm, hkl, tkl, hkv, tkv⟩, a4, a5, a6, a7, a8, a11, a12, rfl⟩
      rw [enM_len, h3] at hkl tkl hkv tkv
      walk_at "ev"
      refine ev_meth ?_
      walk_at "ev"
      refine ⟨_, _, 2, _, .ins _ _, rfl, m_delays T, by decide, ?_⟩
      walk_at "ev"
      refine ⟨_, ⟨ms, rfl, hl, hm, rfl⟩, ?_⟩
      walk_at "ev"
      refine evr_lcm (α := Nat × Nat) (is := is2 8 12) (by decide) (itr_enumX ?_)
      walk_at "ev"
      refine ⟨_, _, _, rfl, .lst _, ?_⟩
      rw [enD_map]
      refine ⟨x.nums.zipIdx, fun p => .tup [nat p.2, nat p.1], fun p => toldD K (p.1, s.getD p.1 0 + late ms, (hdF x.vs s.length p.2).getD 0, (tlF x.vs s.length p.2).getD 0), rfl, by rw [List.length_zipIdx]; omega, ?_, ?_⟩
      · rintro ⟨n, a⟩ hm
        obtain ⟨ha, e⟩ := List.mem_zipIdx' hm
        have hn1 := h1 n (by rw [e]; exact List.getElem_mem ha)
        obtain ⟨s1, s2⟩ := hsome a ha
        obtain ⟨u1, e1⟩ := Option.isSome_iff_exists.mp s1
        obtain ⟨u2, e2⟩ := Option.isSome_iff_exists.mp s2
        show TgR _ _ K (.tup [nat a, nat n]) _ _
        walk_at "ev"
        refine evr_make (k_Told T) (by decide) ?_
        walk_at "ev"
        refine o2_ixI n rfl hn1 ?_
        walk_at "ev"
        refine evr_dget ?_
        walk_at "ev"
        refine ⟨_, .dK hk, nat u1, fun v => .dK (putKD hk (.inl (a : Int)) v), rfl, pm.symm.subset (by simp), ?_, ?_⟩
        · have := KeyIn.k hk (.inl (a : Int))
          rw [hkv a, e1] at this
          exact this
        walk_at "ev"
        refine evr_dget ?_
        walk_at "ev"
        refine ⟨_, .dK tk, nat u2, fun v => .dK (putKD tk (.inl (a : Int)) v), rfl, pm.symm.subset (by simp), ?_, ?_⟩
        · have := KeyIn.k tk (.inl (a : Int))
          rw [tkv a, e2] at this
          exact this
        walk_at "ev"
        refine ⟨_, ⟨_, _, _, _, rfl, rfl⟩, rfl, ?_⟩
        show _ = toldD K (n, s.getD n 0 + late ms, (hdF x.vs s.length a).getD 0, (tlF x.vs s.length a).getD 0)
        rw [e1, e2]
        rfl
      · show _ = D.lst _
        rw [List.map_map]; rfl
end

/-! #### W5 -/
section
variable {P : Program} {w : World} {K : PySem.W.Frag} {mg : Str → Option Value} {base : Heap}
/-- a list or a tuple -/
inductive LT : D → List D → Prop
  | lst (ds) : LT (.lst ds) ds
  | tup (ds) : LT (.tup ds) ds
theorem LT.frz {x : D} {ds : List D} (h : LT x ds) : ∃ l, Frz x l ds := by
  cases h
  · exact ⟨_, .lst _⟩
  · exact ⟨_, .tup _⟩
theorem LT.tupOf {M : Mem} {x : D} {ds : List D} (h : LT x ds) : ∃ l, Items M x l ds ∧ (l = false → x = .tup ds) := by
  cases h
  · exact ⟨true, .lst _, fun e => nomatch e⟩
  · exact ⟨false, .tup _, fun _ => rfl⟩
theorem LT.ty {M : Mem} {x : D} {ds : List D} (h : LT x ds) : ∃ t, TyD K M x t ∧ PySem.W.kitAny K t [.type "list", .type "tuple"] = some true := by
  cases h
  · exact ⟨_, .lst _, rfl⟩
  · exact ⟨_, .tup _, rfl⟩
theorem LT.items {M : Mem} {x : D} {ds : List D} (h : LT x ds) : ∃ l, Items M x l ds := by
  cases h
  · exact ⟨true, .lst _⟩
  · exact ⟨false, .tup _⟩
def Pos1 (gs : List Int) : Prop := ∀ g ∈ gs, 1 ≤ g
def sAreGaps : List D → D → Prop := fun ds d => ∃ x gs, ds = [x] ∧ LT x (inD gs) ∧ Pos1 gs ∧ gs.length ≤ 90000 ∧ d = .bl true
theorem c_are_gaps (T : Tx K mg) : Cal P w K mg base 2 "are_gaps" (spD K sAreGaps) [] := by
  refine calD T.fn_are_gaps T.mg_are_gaps sc_are_gaps b_are_gaps (fun hr => d_are_gaps T hr) (pureP_len ?_) ?_
  · rintro ds d ⟨x, gs, rfl, _, _, _, rfl⟩; rfl
  rintro ds M R ⟨rfl, d, ⟨x, gs, rfl, hx, hp, hn, rfl⟩, rfl⟩
  unfold t_are_gaps
  walk_at "ev"
  obtain ⟨t, ht, hk⟩ := hx.ty (K := K) (M := [])
  refine ol_isiT ht (.cons (.ty _) (.cons (.ty _) .nil)) hk ?_
  walk_at "ev"
  refine evr_lcm (α := Int) (is := [1]) (by decide) (itr_seq ?_)
  walk_at "ev"
  obtain ⟨l, fz⟩ := hx.frz
  refine ⟨l, _, fz, gs, .int, fun _ => .bl true, rfl, by omega, ?_, ?_⟩
  · intro g hg
    have := hp g hg
    walk_at "ev"
    refine evr_call (c_is_number T) (by decide) ?_
    walk_at "ev"
    refine ⟨_, ⟨_, rfl, rfl⟩, ?_⟩
    walk_at "ev"
    exact ⟨rfl, by rw [decide_eq_true this]⟩
  · walk_at "ev"
    refine ol_all (bs := gs.map fun _ => true) ?_ ?_
    · rw [List.map_map]; exact .lst _
    · have : (gs.map fun _ => true).all id = true := by
        rw [List.all_eq_true]
        intro b hb
        obtain ⟨_, _, rfl⟩ := List.mem_map.mp hb
        rfl
      rw [this]
/-! ### trains -/
structure Tr where
  first : Int
  head : List Int
  block : List Int
  rounds : Nat
  fin : List Int
def trF (t : Tr) : List (Str × D) := [("first", .int t.first), ("head", .tup (inD t.head)), ("block", .tup (inD t.block)), ("rounds", nat t.rounds), ("end", .tup (inD t.fin))]
abbrev trD (K : PySem.W.Frag) (t : Tr) : D := .ins (He.ga K "Train") (trF t)
def TrOk (t : Tr) : Prop := Pos1 t.head ∧ Pos1 t.block ∧ Pos1 t.fin ∧ t.head.length ≤ 1000 ∧ t.block.length ≤ 1000 ∧ t.fin.length ≤ 1000 ∧ t.block.sum < 2 ^ 60
def pTrain : List D → List (Str × D) → Prop := fun ds fs => ∃ (t : Tr) (x y z : D), ds = [.int t.first, x, y, nat t.rounds, z] ∧ LT x (inD t.head) ∧ LT y (inD t.block) ∧ LT z (inD t.fin) ∧ TrOk t ∧ fs = trF t
theorem k_Train (T : Tx K mg) : Mak P w K mg base 3 "Train" (He.ga K "Train") (spI K (He.ga K "Train") pTrain) [] := by
  refine makD T.fn_Train_D_initD_ T.mk_Train T.mg_Train sc_TrainD__initD_ b_TrainD__initD_ (fun hr => d_TrainD__initD_ T hr) (initP_len ?_) ?_
  · rintro ds fs ⟨t, x, y, z, rfl, _, _, _, _, rfl⟩; rfl
  rintro ds M R ⟨s, ds', fs, rfl, rfl, ⟨t, x, y, z, rfl, hx, hy, hz, ⟨p1, p2, p3, l1, l2, l3, hs⟩, rfl⟩, rfl⟩
  unfold t_TrainD__initD_
  walk_at "ev"
  refine evr_call (c_is_number T) (by decide) ?_
  walk_at "ev"
  refine ⟨_, ⟨_, rfl, rfl⟩, ?_⟩
  walk_at "ev"
  refine evr_call (c_are_gaps T) (by decide) ?_
  walk_at "ev"
  refine ⟨_, ⟨_, _, rfl, hx, p1, by omega, rfl⟩, ?_⟩
  walk_at "ev"
  refine evr_call (c_are_gaps T) (by decide) ?_
  walk_at "ev"
  refine ⟨_, ⟨_, _, rfl, hy, p2, by omega, rfl⟩, ?_⟩
  walk_at "ev"
  refine evr_call (c_is_number T) (by decide) ?_
  walk_at "ev"
  refine ⟨_, ⟨_, rfl, rfl⟩, ?_⟩
  walk_at "ev"
  refine itN (by omega) ?_
  walk_at "ev"
  refine evr_call (c_are_gaps T) (by decide) ?_
  walk_at "ev"
  refine ⟨_, ⟨_, _, rfl, hz, p3, by omega, rfl⟩, ?_⟩
  walk_at "ev"
  obtain ⟨l, it, h⟩ := hx.tupOf (M := [(s, .ins (He.ga K "Train") (putD "first" (.int t.first) []))])
  refine ⟨l, _, it, h, ?_⟩
  walk_at "ev"
  obtain ⟨l, it, h⟩ := hy.tupOf (M := [(s, .ins (He.ga K "Train") (putD "head" (.tup (inD t.head)) (putD "first" (.int t.first) [])))])
  refine ⟨l, _, it, h, ?_⟩
  walk_at "ev"
  obtain ⟨l, it, h⟩ := hz.tupOf (M := [(s, .ins (He.ga K "Train") (putD "rounds" (nat t.rounds) (putD "block" (.tup (inD t.block)) (putD "head" (.tup (inD t.head)) (putD "first" (.int t.first) [])))))])
  refine ⟨l, _, it, h, ?_⟩
  walk_at "ev"
  exact ⟨rfl, rfl⟩
/-! ### rulers -/
def sumsOf (gs : List Int) : List Int := (List.range (gs.length + 1)).map fun i => (gs.take i).sum
theorem sumsOf_len (gs : List Int) : (sumsOf gs).length = gs.length + 1 := by unfold sumsOf; rw [List.length_map, List.length_range]
theorem sumsOf_get {gs : List Int} {i : Nat} (h : i ≤ gs.length) : (sumsOf gs).getD i 0 = (gs.take i).sum := by
  unfold sumsOf
  rw [List.getD_eq_getElem?_getD, List.getElem?_map, List.getElem?_range (by omega)]; rfl
theorem sumsOf_last (gs : List Int) : (inD (sumsOf gs)).getLast? = some (.int gs.sum) := by
  unfold sumsOf
  rw [range_snoc, List.map_append]
  show (List.map D.int (_ ++ _)).getLast? = _
  rw [List.map_append, List.getLast?_append]
  show (some (D.int (gs.take gs.length).sum)).or _ = _
  rw [List.take_length]; rfl
theorem inD_snoc (xs : List Int) (i : Int) : inD (xs ++ [i]) = inD xs ++ [.int i] := List.map_append
def sSumsOf : List D → D → Prop := fun ds d => ∃ x gs, ds = [x] ∧ LT x (inD gs) ∧ gs.length ≤ 90000 ∧ d = .lst (inD (sumsOf gs))
theorem take_sum_succ {gs : List Int} {i : Nat} (h : i < gs.length) : (gs.take (i + 1)).sum = (gs.take i).sum + gs.getD i 0 := by
  rw [take_succ_getD 0 h, List.sum_append]; simp
theorem c_sums_of (T : Tx K mg) : Cal P w K mg base 1 "sums_of" (spD K sSumsOf) [] := by
  refine calD T.fn_sums_of T.mg_sums_of sc_sums_of b_sums_of (fun hr => d_sums_of T hr) (pureP_len ?_) ?_
  · rintro ds d ⟨x, gs, rfl, _, _, rfl⟩; rfl
  rintro ds M R ⟨rfl, d, ⟨x, gs, rfl, hx, hn, rfl⟩, rfl⟩
  unfold t_sums_of
  refine st_seq (st_set (evr_lstO ?_))
  walk_at "ev"
  intro p hp
  refine st_seq (st_for (is := [2]) (itr_seq ?_))
  walk_at "ev"
  obtain ⟨l, fz⟩ := hx.frz
  refine ⟨l, _, fz, fun i ρ' M' => M' = [(p, .lst (inD ((List.range (i + 1)).map fun i => (gs.take i).sum)))] ∧ ∃ a, ρ' = [some x, some (.loc p), a], ⟨rfl, _, rfl⟩, ?_, ?_⟩
  · rintro i d ρ' M' hd ⟨rfl, a, rfl⟩
    obtain ⟨hi, rfl⟩ := map_get 0 hd
    have e : ((List.range (i + 1)).map fun i => (gs.take i).sum) = ((List.range i).map fun i => (gs.take i).sum) ++ [(gs.take i).sum] := by rw [range_snoc, List.map_append]; rfl
    have e2 : ((List.range (i + 2)).map fun i => (gs.take i).sum) = ((List.range (i + 1)).map fun i => (gs.take i).sum) ++ [(gs.take i).sum + gs.getD i 0] := by rw [range_snoc, List.map_append, List.map_singleton, take_sum_succ hi]
    have hl : ((List.range (i + 1)).map fun i => (gs.take i).sum).length = i + 1 := by rw [List.length_map, List.length_range]
    walk_at "ev"
    refine o2_ix (.loc memH) (atI_last (d := .int (gs.take i).sum) (by rw [e, inD_snoc, List.getLast?_append]; rfl)) ?_
    walk_at "ev"
    · rw [List.length_map, hl]; omega
    · refine ⟨?_, _, rfl⟩
      rw [e2, inD_snoc]
  · rintro ρ' M' ⟨rfl, a, rfl⟩
    rw [List.length_map]
    refine st_frz (i := 1) rfl (List.Perm.refl _) ?_
    walk_at "ev"
    rfl
def rulF (t : Tr) : List (Str × D) := [("first", .int t.first), ("head", .lst (inD (sumsOf t.head))), ("block", .lst (inD (sumsOf t.block))), ("end", .lst (inD (sumsOf t.fin))), ("size", nat t.block.length), ("before", nat t.head.length), ("behind", .int ((t.head.length : Int) + (t.block.length : Int) * (t.rounds : Int))), ("long", .int (t.block.sum * (t.rounds : Int)))]
abbrev rulD (K : PySem.W.Frag) (t : Tr) : D := .ins (He.ga K "Ruler") (rulF t)
def pRuler (K : PySem.W.Frag) : List D → List (Str × D) → Prop := fun ds fs => ∃ t : Tr, ds = [trD K t] ∧ TrOk t ∧ fs = rulF t
theorem sum_nn {gs : List Int} (h : Pos1 gs) : 0 ≤ gs.sum := by
  induction gs with
  | nil => exact Int.le_refl _
  | cons g gs ih =>
    rw [List.sum_cons]
    have := h g (List.mem_cons_self ..)
    have := ih fun x hx => h x (List.mem_cons_of_mem _ hx)
    omega
theorem k_Ruler (T : Tx K mg) : Mak P w K mg base 2 "Ruler" (He.ga K "Ruler") (spI K (He.ga K "Ruler") (pRuler K)) [] := by
  refine makD T.fn_Ruler_D_initD_ T.mk_Ruler T.mg_Ruler sc_RulerD__initD_ b_RulerD__initD_ (fun hr => d_RulerD__initD_ T hr) (initP_len ?_) ?_
  · rintro ds fs ⟨t, rfl, _, rfl⟩; rfl
  rintro ds M R ⟨s, ds', fs, rfl, rfl, ⟨t, rfl, ⟨p1, p2, p3, l1, l2, l3, hs⟩, rfl⟩, rfl⟩
  unfold t_RulerD__initD_
  walk_at "ev"
  refine evr_call (c_sums_of T) (by decide) ?_
  walk_at "ev"
  refine ⟨_, ⟨_, t.head, rfl, .tup _, by omega, rfl⟩, ?_⟩
  walk_at "ev"
  refine evr_call (c_sums_of T) (by decide) ?_
  walk_at "ev"
  refine ⟨_, ⟨_, t.block, rfl, .tup _, by omega, rfl⟩, ?_⟩
  walk_at "ev"
  refine evr_call (c_sums_of T) (by decide) ?_
  walk_at "ev"
  refine ⟨_, ⟨_, t.fin, rfl, .tup _, by omega, rfl⟩, ?_⟩
  walk_at "ev"
  refine o2_mulI (.small (by rw [List.length_map]; omega)) ?_
  walk_at "ev"
  refine o2_ix (.lst _) (atI_last (sumsOf_last t.block)) ?_
  walk_at "ev"
  have := sum_nn p2
  refine o2_mulI (.small ⟨by omega, by omega⟩) ?_
  walk_at "ev"
  refine ⟨rfl, ?_⟩
  rw [List.length_map, List.length_map]
  rfl
def cntOf (t : Tr) : Nat := t.head.length + t.block.length * t.rounds + (t.fin.length + 1)
def sEventCount (K : PySem.W.Frag) : List D → D → Prop := fun ds d => ∃ t : Tr, ds = [rulD K t] ∧ d = nat (cntOf t)
theorem m_event_count (T : Tx K mg) : Met P w K mg base 1 (He.ga K "Ruler") "event_count" (spD K (sEventCount K)) [] := by
  refine metD T.fn_Ruler_event_count T.cl_Ruler T.me_Ruler_event_count sc_Ruler.event_count b_Ruler.event_count (fun hr => d_Ruler.event_count T hr) (pureP_len ?_) ?_
  · rintro ds d ⟨t, rfl, rfl⟩; rfl
  rintro ds M R ⟨rfl, d, ⟨t, rfl, rfl⟩, rfl⟩
  unfold t_Ruler.event_count
  walk_at "ev"
  rw [List.length_map, sumsOf_len]
  unfold cntOf
  show D.int _ = D.int _
  congr 1
def timeAt (t : Tr) (n : Nat) : Int :=
  if n ≤ t.head.length then t.first + (t.head.take n).sum
  else if t.head.length + t.block.length * t.rounds ≤ n then t.first + t.head.sum + t.block.sum * (t.rounds : Int) + (t.fin.take (n - (t.head.length + t.block.length * t.rounds))).sum
  else t.first + t.head.sum + (((n - t.head.length) / t.block.length : Nat) : Int) * t.block.sum + (t.block.take ((n - t.head.length) % t.block.length)).sum
def sTimeOf (K : PySem.W.Frag) : List D → D → Prop := fun ds d => ∃ (t : Tr) (n : Nat), ds = [rulD K t, nat n] ∧ TrOk t ∧ n < cntOf t ∧ d = .int (timeAt t n)
theorem m_time_of (T : Tx K mg) : Met P w K mg base 1 (He.ga K "Ruler") "time_of" (spD K (sTimeOf K)) [] := by
  refine metD T.fn_Ruler_time_of T.cl_Ruler T.me_Ruler_time_of sc_Ruler.time_of b_Ruler.time_of (fun hr => d_Ruler.time_of T hr) (pureP_len ?_) ?_
  · rintro ds d ⟨t, n, rfl, _, _, rfl⟩; rfl
  rintro ds M R ⟨rfl, d, ⟨t, n, rfl, ⟨p1, p2, p3, l1, l2, l3, hs⟩, hn, rfl⟩, rfl⟩
  unfold t_Ruler.time_of
  have hnn := sum_nn p2
  unfold cntOf at hn
  walk_at "ev"
  refine itD (fun h => ?_) (fun h => ?_)
  · walk_at "ev"
    refine o2_ixI n rfl (by rw [sumsOf_len]; omega) ?_
    walk_at "ev"
    show D.int _ = D.int _
    unfold timeAt
    rw [if_pos (by omega), sumsOf_get (by omega)]
  walk_at "ev"
  refine o2_ix (.lst _) (atI_last (sumsOf_last t.head)) ?_
  walk_at "ev"
  have hc : ((t.head.length : Int) + (t.block.length : Int) * (t.rounds : Int)) = ((t.head.length + t.block.length * t.rounds : Nat) : Int) := by
    rw [Int.natCast_add, Int.natCast_mul]
  rw [hc]
  refine itD (fun h1 => ?_) (fun h1 => ?_)
  · walk_at "ev"
    rw [hc]
    refine o2_ixI (n - (t.head.length + t.block.length * t.rounds)) (by omega) (by rw [sumsOf_len]; omega) ?_
    walk_at "ev"
    show D.int _ = D.int _
    unfold timeAt
    rw [if_neg (by omega), if_pos (by omega), sumsOf_get (by omega)]
  walk_at "ev"
  refine st_asg (is := is2 3 4) ?_
  walk_at "ev"
  have hb : 0 < t.block.length := by
    rcases Nat.eq_zero_or_pos t.block.length with e | e
    · rw [e, Nat.zero_mul] at h1; omega
    · exact e
  refine ol_divmod ⟨by omega, by omega⟩ ?_
  have e : (n : Int) - (t.head.length : Int) = ((n - t.head.length : Nat) : Int) := by omega
  rw [e, ← Int.natCast_ediv, ← Int.natCast_emod]
  walk_at "ev"
  refine o2_ix (.lst _) (atI_last (sumsOf_last t.block)) ?_
  walk_at "ev"
  refine o2_mulI (.small2 ⟨by omega, by omega⟩) ?_
  walk_at "ev"
  have hm := Nat.mod_lt (n - t.head.length) hb
  refine o2_ixI ((n - t.head.length) % t.block.length) rfl (by rw [sumsOf_len]; omega) ?_
  walk_at "ev"
  show D.int _ = D.int _
  unfold timeAt
  rw [if_neg (by omega), if_neg (by omega), sumsOf_get (by omega)]
def sAmountOf (K : PySem.W.Frag) : List D → D → Prop := fun ds d => ∃ t : Tr, ds = [trD K t] ∧ TrOk t ∧ d = nat (cntOf t)
theorem c_amount_of (T : Tx K mg) : Cal P w K mg base 4 "amount_of" (spD K (sAmountOf K)) [] := by
  refine calD T.fn_amount_of T.mg_amount_of sc_amount_of b_amount_of (fun hr => d_amount_of T hr) (pureP_len ?_) ?_
  · rintro ds d ⟨t, rfl, _, rfl⟩; rfl
  rintro ds M R ⟨rfl, d, ⟨t, rfl, ok, rfl⟩, rfl⟩
  unfold t_amount_of
  walk_at "ev"
  refine ev_meth (evr_make (k_Ruler T) (by decide) ?_)
  walk_at "ev"
  refine ⟨_, ⟨t, rfl, ok, rfl⟩, _, _, 1, _, .ins _ _, rfl, m_event_count T, by decide, ?_⟩
  walk_at "ev"
  exact ⟨_, ⟨t, rfl, rfl⟩, rfl⟩
def sCheckNumber (K : PySem.W.Frag) : List D → D → Prop := fun ds d => ∃ (t : Tr) (n : Nat), ds = [trD K t, nat n] ∧ TrOk t ∧ n < cntOf t ∧ d = .non
theorem c_check_number (T : Tx K mg) : Cal P w K mg base 5 "check_number" (spD K (sCheckNumber K)) [] := by
  refine calD T.fn_check_number T.mg_check_number sc_check_number b_check_number (fun hr => d_check_number T hr) (pureP_len ?_) ?_
  · rintro ds d ⟨t, n, rfl, _, _, rfl⟩; rfl
  rintro ds M R ⟨rfl, d, ⟨t, n, rfl, ok, hn, rfl⟩, rfl⟩
  unfold t_check_number
  walk_at "ev"
  refine evr_call (c_is_number T) (by decide) ?_
  walk_at "ev"
  refine ⟨_, ⟨_, rfl, rfl⟩, ?_⟩
  walk_at "ev"
  refine itP (by omega) ?_
  refine evr_call (c_amount_of T) (by decide) ?_
  walk_at "ev"
  refine ⟨_, ⟨t, rfl, ok, rfl⟩, ?_⟩
  walk_at "ev"
  refine itnN (by omega) ?_
  walk_at "ev"
  rfl
def sEventAt (K : PySem.W.Frag) : List D → D → Prop := fun ds d => ∃ (t : Tr) (n : Nat), ds = [trD K t, nat n] ∧ TrOk t ∧ n < cntOf t ∧ d = .int (timeAt t n)
theorem c_event_at (T : Tx K mg) : Cal P w K mg base 6 "event_at" (spD K (sEventAt K)) [] := by
  refine calD T.fn_event_at T.mg_event_at sc_event_at b_event_at (fun hr => d_event_at T hr) (pureP_len ?_) ?_
  · rintro ds d ⟨t, n, rfl, _, _, rfl⟩; rfl
  rintro ds M R ⟨rfl, d, ⟨t, n, rfl, ok, hn, rfl⟩, rfl⟩
  unfold t_event_at
  walk_at "ev"
  refine evr_call (c_check_number T) (by decide) ?_
  walk_at "ev"
  refine ⟨_, ⟨t, n, rfl, ok, hn, rfl⟩, ?_⟩
  walk_at "ev"
  refine ev_meth (evr_make (k_Ruler T) (by decide) ?_)
  walk_at "ev"
  refine ⟨_, ⟨t, rfl, ok, rfl⟩, _, _, 1, _, .ins _ _, rfl, m_time_of T, by decide, ?_⟩
  walk_at "ev"
  exact ⟨_, ⟨t, n, rfl, ok, hn, rfl⟩, rfl⟩
end

/-! #### W6 -/
instance : Enc Bool where
  en := .bl
  pd := .bool
  ok := .bl
  lay := fun _ => rfl
  dep := 1
  dle := fun _ => by simp [PyData.depth]
  eqv := fun a b => by cases a <;> cases b <;> rfl
section
variable {P : Program} {w : World} {K : PySem.W.Frag} {mg : Str → Option Value} {base : Heap}
theorem tg_unl {ρ : Sl} {gs : TGs} {is : List Nat} {n : Nat} {ds : List D} {Rr : Sl → Prop} (hn : ds.length = n) (h : TgsR gs is K ds ρ Rr) : TgR (gUnl K n gs) is K (.lst ds) ρ Rr := fun F H σ v S e r Q k => by
  cases r with
  | lst ht r => exact ⟨_, _, rfl, SqL.of (e _ _ ht), r.length.trans hn, h F H σ _ S e r Q k⟩
theorem evr_any {ρ : Sl} {M : Mem} {te : TE} {R : D → Mem → Prop} (h : EvR K te ρ M fun _ M' => R .any M') : EvR K te ρ M R := fun F0 H0 F H σ S W Q q =>
  h F0 H0 F H σ S W Q fun v d M' F' H' e W' r x => q v .any M' F' H' e W' (.any v) x
abbrev S3 := T3 Int Int Bool
abbrev P2 := Int × Int
abbrev sD (xs : List S3) : List D := xs.map Enc.en
abbrev pD (xs : List P2) : List D := xs.map Enc.en
def marks (q : Int) (gs : List Int) : List S3 := gs.map fun g => ⟨g, 1, decide (q ≤ g)⟩
def sMarked : List D → D → Prop := fun ds d => ∃ x gs q, ds = [x, .int q] ∧ LT x (inD gs) ∧ gs.length ≤ 90000 ∧ d = .lst (sD (marks q gs))
theorem c_marked (T : Tx K mg) : Cal P w K mg base 1 "marked" (spD K sMarked) [] := by
  refine calD T.fn_marked T.mg_marked sc_marked b_marked (fun hr => d_marked T hr) (pureP_len ?_) ?_
  · rintro ds d ⟨x, gs, q, rfl, _, _, rfl⟩; rfl
  rintro ds M R ⟨rfl, d, ⟨x, gs, q, rfl, hx, hn, rfl⟩, rfl⟩
  unfold t_marked
  walk_at "ev"
  obtain ⟨l, fz⟩ := hx.frz
  refine evr_lcm (α := Int) (is := [2]) (by decide) (itr_seq ?_)
  walk_at "ev"
  refine ⟨l, _, fz, gs, .int, fun g => Enc.en (⟨g, 1, decide (q ≤ g)⟩ : S3), rfl, by omega, ?_, ?_⟩
  · intro g hg
    walk_at "ev"
    exact ⟨rfl, rfl⟩
  · show _ = D.lst _
    unfold marks
    rw [sD, List.map_map]; rfl
def sumG (xs : List S3) : Int := (xs.map fun s => s.a).sum
def sumC (xs : List S3) : Int := (xs.map fun s => s.b).sum
def sAdded : List D → D → Prop := fun ds d => ∃ xs : List S3, ds = [.lst (sD xs)] ∧ xs.length ≤ 90000 ∧ d = .tup [.int (sumG xs), .int (sumC xs)]
theorem c_added (T : Tx K mg) : Cal P w K mg base 1 "added" (spD K sAdded) [] := by
  refine calD T.fn_added T.mg_added sc_added b_added (fun hr => d_added T hr) (pureP_len ?_) ?_
  · rintro ds d ⟨xs, rfl, _, rfl⟩; rfl
  rintro ds M R ⟨rfl, d, ⟨xs, rfl, hn, rfl⟩, rfl⟩
  unfold t_added
  walk_at "ev"
  refine evr_lcm (α := S3) (is := [1]) (by decide) (itr_seq ?_)
  walk_at "ev"
  refine ⟨_, _, .lst _, xs, Enc.en, fun s => .int s.a, rfl, by omega, ?_, ?_⟩
  · intro s hs
    walk_at "ev"
    refine o2_ix (.tup _) rfl ?_
    exact ⟨rfl, rfl⟩
  walk_at "ev"
  refine ol_sum (ns := xs.map fun s => s.a) (by rw [List.map_map]; exact .lst _) ?_
  walk_at "ev"
  refine evr_lcm (α := S3) (is := [1]) (by decide) (itr_seq ?_)
  walk_at "ev"
  refine ⟨_, _, .lst _, xs, Enc.en, fun s => .int s.b, rfl, by omega, ?_, ?_⟩
  · intro s hs
    walk_at "ev"
    refine o2_ix (.tup _) rfl ?_
    exact ⟨rfl, rfl⟩
  walk_at "ev"
  refine ol_sum (ns := xs.map fun s => s.b) (by rw [List.map_map]; exact .lst _) ?_
  walk_at "ev"
  rfl
/-! ### joining -/
def jbStep (f : List P2) (s : S3) : List P2 := if s.c then f ++ [(s.a, s.b)] else if f.isEmpty then f else f.set (f.length - 1) ((f.getLastD (0, 0)).1 + s.a, (f.getLastD (0, 0)).2 + s.b)
def jb (xs : List S3) : List P2 := xs.foldl jbStep []
theorem jb_len (xs : List S3) : (jb xs).length ≤ xs.length := by
  suffices ∀ (xs : List S3) (f : List P2), (xs.foldl jbStep f).length ≤ f.length + xs.length by have := this xs []; rw [List.length_nil, Nat.zero_add] at this; exact this
  intro xs
  induction xs with
  | nil => intro f; exact Nat.le_refl _
  | cons s xs ih =>
    intro f
    refine Nat.le_trans (ih _) ?_
    have : (jbStep f s).length ≤ f.length + 1 := by
      unfold jbStep
      split
      · rw [List.length_append]; exact Nat.le_refl _
      · split
        · omega
        · rw [List.length_set]; omega
    rw [List.length_cons]
    omega
theorem lastD_get {α : Type} {xs : List α} {a : α} (h : xs.isEmpty = false) : xs.getLast? = some (xs.getLastD a) := by
  have hne : xs ≠ [] := by intro e; subst e; cases h
  rw [List.getLastD_eq_getLast?, List.getLast?_eq_some_getLast hne]; rfl
def sJoinedBehind : List D → D → Prop := fun ds d => ∃ xs : List S3, ds = [.lst (sD xs)] ∧ xs.length ≤ 90000 ∧ d = .lst (pD (jb xs))
theorem pD_snoc (xs : List P2) (i : P2) : pD (xs ++ [i]) = pD xs ++ [Enc.en i] := List.map_append
theorem pD_set (xs : List P2) (i : Nat) (x : P2) : pD (xs.set i x) = (pD xs).set i (Enc.en x) := List.map_set
theorem c_joined_behind (T : Tx K mg) : Cal P w K mg base 1 "joined_behind" (spD K sJoinedBehind) [] := by
  refine calD T.fn_joined_behind T.mg_joined_behind sc_joined_behind b_joined_behind (fun hr => d_joined_behind T hr) (pureP_len ?_) ?_
  · rintro ds d ⟨xs, rfl, _, rfl⟩; rfl
  rintro ds M R ⟨rfl, d, ⟨xs, rfl, hn, rfl⟩, rfl⟩
  unfold t_joined_behind
  walk_at "ev"
  intro p hp
  walk_at "ev"
  refine st_for (is := is3 2 3 4) (itr_seq ?_)
  walk_at "ev"
  refine ⟨_, _, .lst _, fun i ρ' M' => M' = [(p, .lst (pD (jb (xs.take i))))] ∧ ∃ a b c, ρ' = [some (.lst (sD xs)), some (.loc p), a, b, c], ⟨rfl, _, _, _, rfl⟩, ?_, ?_⟩
  · rintro i d ρ' M' hd ⟨rfl, a, b, c, rfl⟩
    obtain ⟨hi, rfl⟩ := map_get ⟨0, 0, false⟩ hd
    have he : jb (xs.take (i + 1)) = jbStep (jb (xs.take i)) (xs.getD i ⟨0, 0, false⟩) := foldl_take _ hi
    have hl := jb_len (xs.take i)
    rw [List.length_take] at hl
    generalize jb (xs.take i) = f at he hl ⊢
    generalize xs.getD i ⟨0, 0, false⟩ = s at he hd ⊢
    show TgR _ _ K (.tup [.int s.a, .int s.b, .bl s.c]) _ _
    walk_at "ev"
    refine itB (fun h => ?_) (fun h => ?_)
    · walk_at "ev"
      · rw [List.length_map]; omega
      · refine ⟨?_, _, _, _, rfl⟩
        rw [he]
        unfold jbStep
        rw [h, if_pos rfl, pD_snoc]; rfl
    · walk_at "ev"
      refine o2_neNilE f (.loc memH) ?_
      walk_at "ev"
      refine itB (fun h1 => ?_) (fun h1 => ?_)
      · have h2 : f.isEmpty = false := by rw [Bool.not_eq_true'] at h1; exact h1
        have h3 := lastD_get (a := ((0 : Int), (0 : Int))) h2
        have h4 : L2.atI (pD f) (-1) = some (.tup [.int (f.getLastD (0, 0)).1, .int (f.getLastD (0, 0)).2]) := atI_last (by rw [List.getLast?_map, h3]; rfl)
        have hpos : 0 < f.length := by
          cases f with
          | nil => cases h2
          | cons a l => exact Nat.succ_pos _
        refine st_setL ?_
        walk_at "ev"
        refine o2_ix (.loc memH) h4 ?_
        walk_at "ev"
        refine o2_ix (.tup _) rfl ?_
        walk_at "ev"
        refine o2_ix (.loc memH) h4 ?_
        walk_at "ev"
        refine o2_ix (.tup _) rfl ?_
        walk_at "ev"
        refine ⟨_, _, _, _, f.length - 1, rfl, rfl, List.Perm.refl _, ?_, ?_⟩
        · unfold ixN
          rw [List.length_map, if_neg (by omega), if_pos (by omega)]
          congr 1; omega
        · refine ⟨?_, _, _, _, rfl⟩
          rw [he]
          unfold jbStep
          rw [h, h2, if_neg Bool.false_ne_true, if_neg Bool.false_ne_true]
          rw [pD_set]
          rfl
      · have h2 : f.isEmpty = true := by rw [Bool.not_eq_false'] at h1; exact h1
        walk_at "ev"
        refine ⟨?_, _, _, _, rfl⟩
        rw [he]
        unfold jbStep
        rw [h, h2, if_neg Bool.false_ne_true, if_pos rfl]
  · rintro ρ' M' ⟨rfl, a, b, c, rfl⟩
    rw [List.length_map, List.take_length]
    refine st_frz (i := 1) rfl (List.Perm.refl _) ?_
    walk_at "ev"
    rfl
structure Ja where
  f : List P2
  s : List S3
def jaStep (x : Ja) (s : S3) : Ja := if s.c then ⟨x.f ++ [(sumG (x.s ++ [s]), sumC (x.s ++ [s]))], []⟩ else ⟨x.f, x.s ++ [s]⟩
def jaF (xs : List S3) : Ja := xs.foldl jaStep ⟨[], []⟩
def ja (xs : List S3) : List P2 := (jaF xs).f
theorem ja_len (xs : List S3) : (jaF xs).f.length + (jaF xs).s.length ≤ xs.length := by
  suffices ∀ (xs : List S3) (x : Ja), (xs.foldl jaStep x).f.length + (xs.foldl jaStep x).s.length ≤ x.f.length + x.s.length + xs.length by have := this xs ⟨[], []⟩; simp only [List.length_nil, Nat.zero_add] at this; exact this
  intro xs
  induction xs with
  | nil => intro f; exact Nat.le_refl _
  | cons s xs ih =>
    intro f
    refine Nat.le_trans (ih _) ?_
    have : (jaStep f s).f.length + (jaStep f s).s.length ≤ f.f.length + f.s.length + 1 := by
      unfold jaStep
      split
      · rw [List.length_append]; simp <;> omega
      · rw [List.length_append]; simp <;> omega
    rw [List.length_cons]
    omega
theorem sD_snoc (xs : List S3) (i : S3) : sD (xs ++ [i]) = sD xs ++ [Enc.en i] := List.map_append
def sJoinedAhead : List D → D → Prop := fun ds d => ∃ xs : List S3, ds = [.lst (sD xs)] ∧ xs.length ≤ 90000 ∧ d = .lst (pD (ja xs))
theorem c_joined_ahead (T : Tx K mg) : Cal P w K mg base 2 "joined_ahead" (spD K sJoinedAhead) [] := by
  refine calD T.fn_joined_ahead T.mg_joined_ahead sc_joined_ahead b_joined_ahead (fun hr => d_joined_ahead T hr) (pureP_len ?_) ?_
  · rintro ds d ⟨xs, rfl, _, rfl⟩; rfl
  rintro ds M R ⟨rfl, d, ⟨xs, rfl, hn, rfl⟩, rfl⟩
  unfold t_joined_ahead
  refine st_seq (st_par (ear_c (evr_lstO (ear_nil ⟨Nat.zero_le _, fun p hp => ear_c (evr_lstO (ear_nil ⟨Nat.zero_le _, fun p2 hp2 => ear_nil ⟨_, _, rfl, ?_⟩⟩))⟩))))
  walk_at "ev"
  refine st_for (is := [3]) (itr_seq ?_)
  walk_at "ev"
  refine ⟨_, _, .lst _, fun i ρ' M' => ∃ r, M'.Perm [(r, .lst (sD (jaF (xs.take i)).s)), (p, .lst (pD (jaF (xs.take i)).f))] ∧ ∃ c, ρ' = [some (.lst (sD xs)), some (.loc p), some (.loc r), c], ⟨p2, List.Perm.refl _, _, rfl⟩, ?_, ?_⟩
  · rintro i d ρ' M' hd ⟨r, pm, c, rfl⟩
    obtain ⟨hi, rfl⟩ := map_get ⟨0, 0, false⟩ hd
    have he : jaF (xs.take (i + 1)) = jaStep (jaF (xs.take i)) (xs.getD i ⟨0, 0, false⟩) := foldl_take _ hi
    have hl := ja_len (xs.take i)
    rw [List.length_take] at hl
    generalize jaF (xs.take i) = f at he hl pm ⊢
    generalize xs.getD i ⟨0, 0, false⟩ = s at he hd ⊢
    refine tg_name (StR.perm ?_ pm)
    walk_at "ev"
    · rw [List.length_map]; omega
    refine o2_ix (.tup _) (d := .bl s.c) rfl ?_
    walk_at "ev"
    refine itB (fun h => ?_) (fun h => ?_)
    · refine st_frz (i := 2) rfl (List.Perm.refl _) ?_
      walk_at "ev"
      refine evr_call (c_added T) (by decide) ?_
      walk_at "ev"
      refine ⟨_, ⟨f.s ++ [s], ?_, by rw [List.length_append]; show f.s.length + 1 ≤ 90000; omega, rfl⟩, ?_⟩
      · rw [sD_snoc]
      walk_at "ev"
      · rw [List.length_map]; omega
      intro p3 hp3
      refine ⟨p3, ?_, _, rfl⟩
      rw [he]
      unfold jaStep
      rw [h, if_pos rfl, pD_snoc]
      exact List.Perm.refl _
    · walk_at "ev"
      refine ⟨r, ?_, _, rfl⟩
      rw [he]
      unfold jaStep
      rw [h, if_neg Bool.false_ne_true, sD_snoc]
  · rintro ρ' M' ⟨r, pm, c, rfl⟩
    rw [List.length_map, List.take_length] at pm
    refine st_frz (i := 1) rfl (pm.trans (List.Perm.swap _ _ _)) ?_
    walk_at "ev"
    rfl
def lead (xs : List S3) : List S3 := xs.takeWhile fun s => !s.c
def sLeading : List D → D → Prop := fun ds d => ∃ xs : List S3, ds = [.lst (sD xs)] ∧ xs.length ≤ 90000 ∧ d = .lst (sD (lead xs))
theorem lead_at : ∀ {xs : List S3} {i : Nat}, i < xs.length → (∀ s ∈ xs.take i, s.c = false) → (xs.getD i ⟨0, 0, false⟩).c = true → lead xs = xs.take i
  | [], i, h, _, _ => absurd h (Nat.not_lt_zero _)
  | s :: xs, 0, _, _, e => by
    have e : s.c = true := e
    unfold lead
    rw [List.takeWhile_cons, e]; rfl
  | s :: xs, i + 1, h, hs, e => by
    have h0 : s.c = false := hs s (by rw [List.take_succ_cons]; exact List.mem_cons_self ..)
    unfold lead
    rw [List.takeWhile_cons, h0, List.take_succ_cons]
    show s :: lead xs = _
    rw [lead_at (i := i) (by rw [List.length_cons] at h; omega) (fun t ht => hs t (by rw [List.take_succ_cons]; exact List.mem_cons_of_mem _ ht)) e]
theorem lead_all {xs : List S3} (h : ∀ s ∈ xs, s.c = false) : lead xs = xs := by
  unfold lead
  induction xs with
  | nil => rfl
  | cons s xs ih => rw [List.takeWhile_cons, h s (List.mem_cons_self ..)]; show s :: _ = _; rw [ih fun t ht => h t (List.mem_cons_of_mem _ ht)]
theorem c_leading (T : Tx K mg) : Cal P w K mg base 1 "leading" (spD K sLeading) [] := by
  refine calD T.fn_leading T.mg_leading sc_leading b_leading (fun hr => d_leading T hr) (pureP_len ?_) ?_
  · rintro ds d ⟨xs, rfl, _, rfl⟩; rfl
  rintro ds M R ⟨rfl, d, ⟨xs, rfl, hn, rfl⟩, rfl⟩
  unfold t_leading
  walk_at "ev"
  intro p hp
  walk_at "ev"
  refine st_for (is := [2]) (itr_seq ?_)
  walk_at "ev"
  refine ⟨_, _, .lst _, fun i ρ' M' => M' = [(p, .lst (sD (xs.take i)))] ∧ (∀ s ∈ xs.take i, s.c = false) ∧ ∃ a, ρ' = [some (.lst (sD xs)), some (.loc p), a], ⟨rfl, (fun s hs => nomatch hs), _, rfl⟩, ?_, ?_⟩
  · rintro i d ρ' M' hd ⟨rfl, hs, a, rfl⟩
    obtain ⟨hi, rfl⟩ := map_get ⟨0, 0, false⟩ hd
    have he := take_succ_getD (⟨0, 0, false⟩ : S3) hi
    have hle := lead_at hi hs
    have hll : (xs.take i).length ≤ i := by rw [List.length_take]; omega
    generalize xs.getD i ⟨0, 0, false⟩ = s at he hd hle ⊢
    refine tg_name ?_
    walk_at "ev"
    refine o2_ix (.tup _) (d := .bl s.c) rfl ?_
    walk_at "ev"
    refine itB (fun h => ?_) (fun h => ?_)
    · refine st_frz (i := 1) rfl (List.Perm.refl _) ?_
      walk_at "ev"
      show D.lst _ = D.lst _
      rw [hle h]
    · walk_at "ev"
      · rw [List.length_map]; omega
      refine ⟨?_, ?_, _, rfl⟩
      · rw [he, sD_snoc]
      · rw [he]
        intro t ht
        rcases List.mem_append.mp ht with ht | ht
        · exact hs t ht
        · rw [List.mem_singleton] at ht; rw [ht]; exact h
  · rintro ρ' M' ⟨rfl, hs, a, rfl⟩
    rw [List.length_map, List.take_length] at hs ⊢
    refine st_frz (i := 1) rfl (List.Perm.refl _) ?_
    walk_at "ev"
    show D.lst _ = D.lst _
    rw [lead_all hs]
end

/-! #### W7 -/
section
variable {P : Program} {w : World} {K : PySem.W.Frag} {mg : Str → Option Value} {base : Heap}
def cutFs (a r : List D) (n : Nat) (b : List D) : List (Str × D) := [("ahead", .lst a), ("row", .lst r), ("rounds", nat n), ("rest", .lst b)]
def pCut : List D → List (Str × D) → Prop := fun ds fs => ∃ a r n b, ds = [.lst a, .lst r, nat n, .lst b] ∧ fs = cutFs a r n b
theorem k_Cut (T : Tx K mg) : Mak P w K mg base 1 "Cut" (He.ga K "Cut") (spI K (He.ga K "Cut") pCut) [] := by
  refine makD T.fn_Cut_D_initD_ T.mk_Cut T.mg_Cut sc_CutD__initD_ b_CutD__initD_ (fun hr => d_CutD__initD_ T hr) (initP_len ?_) ?_
  · rintro ds fs ⟨a, b, c, d, rfl, rfl⟩; rfl
  rintro ds M R ⟨y, ds', fs, rfl, rfl, ⟨a, b, c, d, rfl, rfl⟩, rfl⟩
  unfold t_CutD__initD_
  walk_at "ev"
  exact ⟨rfl, rfl⟩
abbrev cutDt (K : PySem.W.Frag) (a r : List D) (n : Nat) (b : List D) : D := .ins (He.ga K "Cut") (cutFs a r n b)
/-- steps ahead, in turn, behind -/
structure Cu where
  ahead : List S3
  row : List S3
  rounds : Nat
  rest : List S3
def places (xs : List S3) : List Nat := (xs.zipIdx.filter fun p => p.1.c).map fun p => p.2
def cutM (q : Int) (t : Tr) (more : Nat) : Cu :=
  let h := marks q t.head; let b := marks q t.block; let e := marks q t.fin
  if t.rounds = 0 ∨ b = [] then ⟨h ++ e, [], 0, []⟩
  else if places b = [] then ⟨h ++ [⟨sumG b * (t.rounds : Int), sumC b * (t.rounds : Int), false⟩] ++ e, [], 0, []⟩
  else ⟨h ++ b.take ((places b).getD 0 0 + more), b.drop ((places b).getD 0 0 + more) ++ b.take ((places b).getD 0 0 + more), t.rounds - 1, b.drop ((places b).getD 0 0 + more) ++ e⟩
abbrev cuD (K : PySem.W.Frag) (c : Cu) : D := cutDt K (sD c.ahead) (sD c.row) c.rounds (sD c.rest)
theorem sIx_some {n d k : Nat} (h : k ≤ n) : HT.sIx n d (some (k : Int)) = k := by rw [HT.sIx_nat]; omega
theorem cut_to {α : Type} {f : α → D} {xs : List α} {k : Nat} (h : k ≤ xs.length) : cutD (xs.map f) none (some (k : Int)) = (xs.take k).map f := by
  unfold cutD
  rw [sIx_some (by rw [List.length_map]; exact h), HT.sIx_none, List.drop_zero, Nat.sub_zero, List.map_take]
theorem cut_from {α : Type} {f : α → D} {xs : List α} {k : Nat} (h : k ≤ xs.length) : cutD (xs.map f) (some (k : Int)) none = (xs.drop k).map f := by
  unfold cutD
  rw [sIx_some (by rw [List.length_map]; exact h), HT.sIx_none, List.map_drop]
  rw [List.take_of_length_le (by rw [List.length_drop]; exact Nat.le_refl _)]
theorem o2_addM {α : Type} {ρ : Sl} {M : Mem} {R : D → Mem → Prop} {f : α → D} {xs ys : List α} (hl : xs.length + ys.length ≤ 100000) (k : R (.lst ((xs ++ ys).map f)) M) : O2 K (rAddX K) (.lst (xs.map f)) (.lst (ys.map f)) M R := by
  refine o2_addL (.lst _) (.lst _) (by rw [List.length_map, List.length_map]; exact hl) ?_
  rw [← List.map_append]; exact k
theorem places_lt (xs : List S3) : ∀ a ∈ places xs, a < xs.length := by
  intro a ha
  obtain ⟨⟨s, i⟩, hp, rfl⟩ := List.mem_map.mp ha
  exact (List.mem_zipIdx' (List.mem_filter.mp hp).1).1
theorem marks_len (q : Int) (gs : List Int) : (marks q gs).length = gs.length := List.length_map _
theorem sumG_marks (q : Int) (gs : List Int) : sumG (marks q gs) = gs.sum := by
  unfold sumG marks
  rw [List.map_map]
  congr 1
  conv => rhs; rw [← List.map_id gs]
  rfl
theorem sumC_marks (q : Int) (gs : List Int) : sumC (marks q gs) = (gs.length : Int) := by
  unfold sumC marks
  rw [List.map_map]
  induction gs with
  | nil => rfl
  | cons g gs ih => rw [List.map_cons, List.sum_cons, List.length_cons, ih]; show (1 : Int) + _ = _; omega
def sCutAtQuiet (K : PySem.W.Frag) : List D → D → Prop := fun ds d => ∃ (t : Tr) (q : Int) (more : Nat), ds = [trD K t, .int q, nat more] ∧ TrOk t ∧ more ≤ 1 ∧ d = cuD K (cutM q t more)
theorem c_cut_at_quiet (T : Tx K mg) : Cal P w K mg base 3 "cut_at_quiet" (spD K (sCutAtQuiet K)) [] := by
  refine calD T.fn_cut_at_quiet T.mg_cut_at_quiet sc_cut_at_quiet b_cut_at_quiet (fun hr => d_cut_at_quiet T hr) (pureP_len ?_) ?_
  · rintro ds d ⟨t, q, more, rfl, _, _, rfl⟩; rfl
  rintro ds M R ⟨rfl, d, ⟨t, q, more, rfl, ⟨p1, p2, p3, l1, l2, l3, hs⟩, hm, rfl⟩, rfl⟩
  unfold t_cut_at_quiet
  have hnn := sum_nn p2
  walk_at "ev"
  refine evr_call (c_marked T) (by decide) ?_
  walk_at "ev"
  refine ⟨_, ⟨_, t.head, q, rfl, .tup _, by omega, rfl⟩, ?_⟩
  walk_at "ev"
  refine evr_call (c_marked T) (by decide) ?_
  walk_at "ev"
  refine ⟨_, ⟨_, t.block, q, rfl, .tup _, by omega, rfl⟩, ?_⟩
  walk_at "ev"
  refine evr_call (c_marked T) (by decide) ?_
  walk_at "ev"
  refine ⟨_, ⟨_, t.fin, q, rfl, .tup _, by omega, rfl⟩, ?_⟩
  walk_at "ev"
  refine ⟨_, _, _, rfl, ?_⟩
  have ml1 := marks_len q t.head
  have ml2 := marks_len q t.block
  have ml3 := marks_len q t.fin
  have hG := sumG_marks q t.block
  have hC := sumC_marks q t.block
  have hcut : cutM q t more = if t.rounds = 0 ∨ marks q t.block = [] then ⟨marks q t.head ++ marks q t.fin, [], 0, []⟩
    else if places (marks q t.block) = [] then ⟨marks q t.head ++ [⟨sumG (marks q t.block) * (t.rounds : Int), sumC (marks q t.block) * (t.rounds : Int), false⟩] ++ marks q t.fin, [], 0, []⟩
    else ⟨marks q t.head ++ (marks q t.block).take ((places (marks q t.block)).getD 0 0 + more), (marks q t.block).drop ((places (marks q t.block)).getD 0 0 + more) ++ (marks q t.block).take ((places (marks q t.block)).getD 0 0 + more), t.rounds - 1, (marks q t.block).drop ((places (marks q t.block)).getD 0 0 + more) ++ marks q t.fin⟩ := rfl
  generalize marks q t.head = h at ml1 hcut ⊢
  generalize marks q t.block = b at ml2 hG hC hcut ⊢
  generalize marks q t.fin = e at ml3 hcut ⊢
  walk_at "ev"
  refine evr_lcf (α := S3 × Nat) (is := is2 10 11) (by decide) (itr_enumX ?_)
  walk_at "ev"
  refine ⟨_, _, _, rfl, .lst _, ?_⟩
  rw [enD_map]
  refine ⟨b.zipIdx, fun p => .tup [nat p.2, Enc.en p.1], fun p => nat p.2, fun p => p.1.c, rfl, by rw [List.length_zipIdx]; omega, ?_, ?_⟩
  · rintro ⟨s, i⟩ hp
    walk_at "ev"
    refine o2_ix (.tup _) (d := .bl s.c) rfl ?_
    walk_at "ev"
    refine ⟨rfl, rfl, fun _ => ?_⟩
    walk_at "ev"
    exact ⟨rfl, rfl⟩
  have hpl : (b.zipIdx.filter fun p => p.1.c).map (fun p => nat p.2) = naD (places b) := by unfold places; rw [naD, List.map_map]; rfl
  rw [hpl]
  have hplt := places_lt b
  generalize places b = ps at hplt hcut ⊢
  have first : cutM q t more = ⟨h ++ e, [], 0, []⟩ → StR K (tRet (tMakeX P w K mg base 2 "Cut" (tCons (tOp (rAddX K) (tVar 3) (tVar 5)) (tCons (tLst tNil) (tCons (tC (.int 0)) (tCons (tLst tNil) tNil)))))) [some (trD K t), some (.int q), some (nat more), some (.lst (sD h)), some (.lst (sD b)), some (.lst (sD e)), some (.lst (naD ps)), none, none, none, none, none] [] { nx := fun _ _ => False, rt := fun d' _ => d' = cuD K (cutM q t more) } := by
    intro e0
    walk_at "ev"
    refine evr_make (k_Cut T) (by decide) ?_
    walk_at "ev"
    refine o2_addM (ρ := []) (by omega) ?_
    walk_at "ev"
    refine ⟨_, ⟨_, _, 0, _, rfl, rfl⟩, ?_⟩
    show _ = cuD K (cutM q t more)
    rw [e0]; rfl
  walk_at "ev"
  refine itD (fun hr => ?_) (fun hr => ?_)
  · refine st_mono (first (by rw [hcut, if_pos (.inl (by omega))])) (fun _ _ f => f.elim) (fun _ _ x => x) (fun _ _ x => x) (fun _ _ x => x)
  walk_at "ev"
  refine o2_eqNilE b (.lst _) ?_
  walk_at "ev"
  refine itB (fun hb => ?_) (fun hb => ?_)
  · refine st_mono (first (by rw [hcut, if_pos (.inr (by cases b with | nil => rfl | cons _ _ => cases hb))])) (fun _ _ f => f.elim) (fun _ _ x => x) (fun _ _ x => x) (fun _ _ x => x)
  have hne : b ≠ [] := by intro e; rw [e] at hb; cases hb
  walk_at "ev"
  refine o2_eqNilN ps (.lst _) ?_
  walk_at "ev"
  refine itB (fun hq => ?_) (fun hq => ?_)
  · have e0 : ps = [] := by cases ps with | nil => rfl | cons _ _ => cases hq
    rw [if_neg (fun z => z.elim (fun z => hr (by omega)) hne), if_pos e0] at hcut
    walk_at "ev"
    refine st_asg (is := is2 7 8) (evr_call (c_added T) (by decide) ?_)
    walk_at "ev"
    refine ⟨_, ⟨b, rfl, by omega, rfl⟩, ?_⟩
    walk_at "ev"
    refine evr_make (k_Cut T) (by decide) ?_
    walk_at "ev"
    refine o2_mulI (.small ⟨by omega, by omega⟩) ?_
    walk_at "ev"
    refine o2_mulI (.small ⟨by omega, by omega⟩) ?_
    walk_at "ev"
    refine o2_addM (ys := [(⟨sumG b * (t.rounds : Int), sumC b * (t.rounds : Int), false⟩ : S3)]) (ρ := []) (by show h.length + 1 ≤ 100000; omega) ?_
    walk_at "ev"
    refine o2_addM (ρ := []) (by rw [List.length_append]; show h.length + 1 + e.length ≤ 100000; omega) ?_
    walk_at "ev"
    refine ⟨_, ⟨_, _, 0, _, rfl, rfl⟩, ?_⟩
    show _ = cuD K (cutM q t more)
    rw [hcut]; rfl
  have e0 : ps ≠ [] := by intro e; rw [e] at hq; cases hq
  rw [if_neg (fun z => z.elim (fun z => hr (by omega)) hne), if_neg e0] at hcut
  have hp0 : 0 < ps.length := List.length_pos_iff.mpr e0
  have hlt := hplt _ (getD_mem 0 hp0)
  walk_at "ev"
  refine o2_ixN 0 rfl hp0 ?_
  walk_at "ev"
  rw [← Int.natCast_add]
  have hat : ps.getD 0 0 + more ≤ b.length := by omega
  generalize ps.getD 0 0 + more = at_ at hat hcut ⊢
  refine evr_make (k_Cut T) (by decide) ?_
  walk_at "ev"
  refine evr_sl ?_
  walk_at "ev"
  refine ⟨_, .lst _, ?_⟩
  rw [cut_to hat]
  refine o2_addM (ρ := []) (by rw [List.length_take]; omega) ?_
  walk_at "ev"
  refine evr_sl ?_
  walk_at "ev"
  refine ⟨_, .lst _, ?_⟩
  rw [cut_from hat]
  walk_at "ev"
  refine evr_sl ?_
  walk_at "ev"
  refine ⟨_, .lst _, ?_⟩
  rw [cut_to hat]
  refine o2_addM (ρ := []) (by rw [List.length_take, List.length_drop]; omega) ?_
  walk_at "ev"
  refine evr_sl ?_
  walk_at "ev"
  refine ⟨_, .lst _, ?_⟩
  rw [cut_from hat]
  walk_at "ev"
  refine o2_addM (ρ := []) (by rw [List.length_drop]; omega) ?_
  walk_at "ev"
  rw [show (t.rounds : Int) - 1 = ((t.rounds - 1 : Nat) : Int) by omega]
  refine ⟨_, ⟨_, _, t.rounds - 1, _, rfl, rfl⟩, ?_⟩
  show _ = cuD K (cutM q t more)
  rw [hcut]
/-! ### trains from pairs -/
structure Cp where
  ahead : List P2
  row : List P2
  rounds : Nat
  rest : List P2
def sel (i : Nat) (x : P2) : Int := if i = 0 then x.1 else x.2
def trAt (f : P2) (c : Cp) (i : Nat) : Tr := ⟨sel i f, c.ahead.map (sel i), c.row.map (sel i), c.rounds, c.rest.map (sel i)⟩
def sTrainsOf (K : PySem.W.Frag) : List D → D → Prop := fun ds d => ∃ (f : P2) (c : Cp), ds = [Enc.en f, cutDt K (pD c.ahead) (pD c.row) c.rounds (pD c.rest)] ∧ TrOk (trAt f c 0) ∧ TrOk (trAt f c 1) ∧ d = .lst [trD K (trAt f c 0), trD K (trAt f c 1)]
theorem sel_at {i : Nat} (h : i < 2) (x : P2) : L2.atI [D.int x.1, .int x.2] (i : Int) = some (.int (sel i x)) := by
  rcases (by omega : i = 0 ∨ i = 1) with rfl | rfl <;> rfl
theorem c_trains_of (T : Tx K mg) : Cal P w K mg base 5 "trains_of" (spD K (sTrainsOf K)) [] := by
  refine calD T.fn_trains_of T.mg_trains_of sc_trains_of b_trains_of (fun hr => d_trains_of T hr) (pureP_len ?_) ?_
  · rintro ds d ⟨f, c, rfl, _, _, rfl⟩; rfl
  rintro ds M R ⟨rfl, d, ⟨f, c, rfl, ok0, ok1, rfl⟩, rfl⟩
  unfold t_trains_of
  walk_at "ev"
  intro p hp
  walk_at "ev"
  refine st_for (is := [3]) (itr_seq ?_)
  walk_at "ev"
  refine ⟨_, _, .tup _, fun i ρ' M' => M' = [(p, .lst (([trAt f c 0, trAt f c 1].take i).map (trD K)))] ∧ ∃ a3 a4 a5 a6 a7 a8, ρ' = [some (Enc.en f), some (cutDt K (pD c.ahead) (pD c.row) c.rounds (pD c.rest)), some (.loc p), a3, a4, a5, a6, a7, a8], ⟨rfl, _, _, _, _, _, _, rfl⟩, ?_, ?_⟩
  · rintro i d ρ' M' hd ⟨rfl, a3, a4, a5, a6, a7, a8, rfl⟩
    have hi : i < 2 := by
      rcases Nat.lt_or_ge i 2 with h | h
      · exact h
      · rw [List.getElem?_eq_none h] at hd; cases hd
    have ed : d = nat i := by
      rcases (by omega : i = 0 ∨ i = 1) with rfl | rfl <;> exact (Option.some.inj hd).symm
    subst ed
    have ok : TrOk (trAt f c i) := by rcases (by omega : i = 0 ∨ i = 1) with rfl | rfl <;> assumption
    have et : [trAt f c 0, trAt f c 1].take (i + 1) = [trAt f c 0, trAt f c 1].take i ++ [trAt f c i] := by rcases (by omega : i = 0 ∨ i = 1) with rfl | rfl <;> rfl
    have hlen : (([trAt f c 0, trAt f c 1].take i).map (trD K)).length ≤ 2 := by rw [List.length_map, List.length_take]; simp; omega
    obtain ⟨_, _, _, l1, l2, l3, _⟩ := id ok
    have l1 : (c.ahead.map (sel i)).length ≤ 1000 := l1
    have l2 : (c.row.map (sel i)).length ≤ 1000 := l2
    have l3 : (c.rest.map (sel i)).length ≤ 1000 := l3
    rw [List.length_map] at l1 l2 l3
    refine tg_name ?_
    walk_at "ev"
    refine st_asg (is := is3 4 5 6) ?_
    refine evr_lcm (α := List P2) (is := [7]) (by decide) (itr_seq ?_)
    walk_at "ev"
    refine ⟨_, _, .tup _, [c.ahead, c.row, c.rest], fun l => .lst (pD l), fun l => .lst (inD (l.map (sel i))), rfl, by show 3 ≤ 100000; omega, ?_, ?_⟩
    · intro l hl
      have hll : l.length ≤ 1000 := by
        rcases List.mem_cons.mp hl with rfl | hl
        · exact l1
        rcases List.mem_cons.mp hl with rfl | hl
        · exact l2
        rcases List.mem_cons.mp hl with rfl | hl
        · exact l3
        cases hl
      refine tg_name (evr_lcm (α := P2) (is := [8]) (by decide) (itr_seq ?_))
      walk_at "ev"
      refine ⟨_, _, .lst _, l, Enc.en, fun x => .int (sel i x), rfl, by omega, ?_, ?_⟩
      · intro x hx
        walk_at "ev"
        refine o2_ix (.tup _) (sel_at hi x) ?_
        exact ⟨rfl, rfl⟩
      · refine ⟨rfl, ?_⟩
        show D.lst _ = D.lst _
        rw [inD, List.map_map]; rfl
    refine tg_unl (ds := [.lst (inD (c.ahead.map (sel i))), .lst (inD (c.row.map (sel i))), .lst (inD (c.rest.map (sel i)))]) rfl ?_
    walk_at "ev"
    refine evr_make (k_Train T) (by decide) ?_
    walk_at "ev"
    refine o2_ix (.tup _) (sel_at hi f) ?_
    walk_at "ev"
    refine ⟨_, ⟨trAt f c i, _, _, _, rfl, .lst _, .lst _, .lst _, ok, rfl⟩, ?_⟩
    refine ⟨_, _, List.Perm.refl _, by omega, ?_⟩
    refine ⟨?_, _, _, _, _, _, _, rfl⟩
    rw [et, List.map_append]
    rfl
  · rintro ρ' M' ⟨rfl, a3, a4, a5, a6, a7, a8, rfl⟩
    refine st_frz (i := 2) rfl (List.Perm.refl _) ?_
    walk_at "ev"
    rfl
end

/-! #### W8 -/
section
variable {P : Program} {w : World} {K : PySem.W.Frag} {mg : Str → Option Value} {base : Heap}
def lastC (q : Int) (t : Tr) : Cp := let c := cutM q t 0; ⟨jb c.ahead, jb c.row, c.rounds, jb c.rest⟩
def lastS (q : Int) (t : Tr) : P2 := (t.first + sumG (lead (cutM q t 0).ahead), sumC (lead (cutM q t 0).ahead))
def lastT (q : Int) (t : Tr) (i : Nat) : Tr := trAt (lastS q t) (lastC q t) i
def firstC (q : Int) (t : Tr) : Cp := let c := cutM q t 1; ⟨ja c.ahead, ja c.row, c.rounds, ja c.rest⟩
def firstT (q : Int) (t : Tr) (i : Nat) : Tr := trAt (t.first, 0) (firstC q t) i
theorem cutM_len (q : Int) (t : Tr) (more : Nat) (h : TrOk t) : (cutM q t more).ahead.length ≤ 3000 ∧ (cutM q t more).row.length ≤ 3000 ∧ (cutM q t more).rest.length ≤ 3000 := by
  obtain ⟨_, _, _, l1, l2, l3, _⟩ := h
  unfold cutM
  have := marks_len q t.head
  have := marks_len q t.block
  have := marks_len q t.fin
  simp only
  split
  · simp only [List.length_append, List.length_nil]; omega
  · split
    · simp only [List.length_append, List.length_nil, List.length_cons]; omega
    · simp only [List.length_append, List.length_take, List.length_drop]; omega
def sLastTrains (K : PySem.W.Frag) : List D → D → Prop := fun ds d => ∃ (q : Int) (t : Tr), ds = [.int q, trD K t] ∧ TrOk t ∧ TrOk (lastT q t 0) ∧ TrOk (lastT q t 1) ∧ d = .lst [trD K (lastT q t 0), trD K (lastT q t 1)]
theorem lead_len (xs : List S3) : (lead xs).length ≤ xs.length := (List.takeWhile_sublist _).length_le
theorem c_last_trains (T : Tx K mg) : Cal P w K mg base 6 "last_trains" (spD K (sLastTrains K)) [] := by
  refine calD T.fn_last_trains T.mg_last_trains sc_last_trains b_last_trains (fun hr => d_last_trains T hr) (pureP_len ?_) ?_
  · rintro ds d ⟨q, t, rfl, _, _, _, rfl⟩; rfl
  rintro ds M R ⟨rfl, d, ⟨q, t, rfl, ok, ok0, ok1, rfl⟩, rfl⟩
  unfold t_last_trains
  obtain ⟨l1, l2, l3⟩ := cutM_len q t 0 ok
  walk_at "ev"
  refine evr_call (c_cut_at_quiet T) (by decide) ?_
  walk_at "ev"
  refine ⟨_, ⟨t, q, 0, rfl, ok, by omega, rfl⟩, ?_⟩
  unfold lastT lastS lastC at *
  generalize cutM q t 0 = c at *
  walk_at "ev"
  refine st_asg (is := is2 3 4) (evr_call (c_added T) (by decide) ?_)
  walk_at "ev"
  refine evr_call (c_leading T) (by decide) ?_
  walk_at "ev"
  refine ⟨_, ⟨c.ahead, rfl, by omega, rfl⟩, ?_⟩
  walk_at "ev"
  refine ⟨_, ⟨lead c.ahead, rfl, by have := lead_len c.ahead; omega, rfl⟩, ?_⟩
  walk_at "ev"
  refine evr_lcm (α := List S3) (is := [6]) (by decide) (itr_seq ?_)
  walk_at "ev"
  refine ⟨_, _, .tup _, [c.ahead, c.row, c.rest], fun l => .lst (sD l), fun l => .lst (pD (jb l)), rfl, by show 3 ≤ 100000; omega, ?_, ?_⟩
  · intro l hl
    have hll : l.length ≤ 3000 := by
      rcases List.mem_cons.mp hl with rfl | hl
      · exact l1
      rcases List.mem_cons.mp hl with rfl | hl
      · exact l2
      rcases List.mem_cons.mp hl with rfl | hl
      · exact l3
      cases hl
    refine tg_name (evr_call (c_joined_behind T) (by decide) ?_)
    walk_at "ev"
    exact ⟨_, ⟨l, rfl, by omega, rfl⟩, rfl, rfl⟩
  walk_at "ev"
  refine evr_call (c_trains_of T) (by decide) ?_
  walk_at "ev"
  refine evr_make (k_Cut T) (by decide) ?_
  walk_at "ev"
  refine o2_ix (.lst _) (d := .lst (pD (jb c.ahead))) rfl ?_
  walk_at "ev"
  refine o2_ix (.lst _) (d := .lst (pD (jb c.row))) rfl ?_
  walk_at "ev"
  refine o2_ix (.lst _) (d := .lst (pD (jb c.rest))) rfl ?_
  walk_at "ev"
  refine ⟨_, ⟨_, _, c.rounds, _, rfl, rfl⟩, ?_⟩
  walk_at "ev"
  exact ⟨_, ⟨(t.first + sumG (lead c.ahead), sumC (lead c.ahead)), ⟨jb c.ahead, jb c.row, c.rounds, jb c.rest⟩, rfl, ok0, ok1, rfl⟩, rfl⟩
def sFirstTrains (K : PySem.W.Frag) : List D → D → Prop := fun ds d => ∃ (q : Int) (t : Tr), ds = [.int q, trD K t] ∧ TrOk t ∧ TrOk (firstT q t 0) ∧ TrOk (firstT q t 1) ∧ d = .lst [trD K (firstT q t 0), trD K (firstT q t 1)]
theorem c_first_trains (T : Tx K mg) : Cal P w K mg base 6 "first_trains" (spD K (sFirstTrains K)) [] := by
  refine calD T.fn_first_trains T.mg_first_trains sc_first_trains b_first_trains (fun hr => d_first_trains T hr) (pureP_len ?_) ?_
  · rintro ds d ⟨q, t, rfl, _, _, _, rfl⟩; rfl
  rintro ds M R ⟨rfl, d, ⟨q, t, rfl, ok, ok0, ok1, rfl⟩, rfl⟩
  unfold t_first_trains
  obtain ⟨l1, l2, l3⟩ := cutM_len q t 1 ok
  walk_at "ev"
  refine evr_call (c_cut_at_quiet T) (by decide) ?_
  walk_at "ev"
  refine ⟨_, ⟨t, q, 1, rfl, ok, by omega, rfl⟩, ?_⟩
  unfold firstT firstC at *
  generalize cutM q t 1 = c at *
  walk_at "ev"
  refine evr_lcm (α := List S3) (is := [4]) (by decide) (itr_seq ?_)
  walk_at "ev"
  refine ⟨_, _, .tup _, [c.ahead, c.row, c.rest], fun l => .lst (sD l), fun l => .lst (pD (ja l)), rfl, by show 3 ≤ 100000; omega, ?_, ?_⟩
  · intro l hl
    have hll : l.length ≤ 3000 := by
      rcases List.mem_cons.mp hl with rfl | hl
      · exact l1
      rcases List.mem_cons.mp hl with rfl | hl
      · exact l2
      rcases List.mem_cons.mp hl with rfl | hl
      · exact l3
      cases hl
    refine tg_name (evr_call (c_joined_ahead T) (by decide) ?_)
    walk_at "ev"
    exact ⟨_, ⟨l, rfl, by omega, rfl⟩, rfl, rfl⟩
  walk_at "ev"
  refine evr_call (c_trains_of T) (by decide) ?_
  walk_at "ev"
  refine evr_make (k_Cut T) (by decide) ?_
  walk_at "ev"
  refine o2_ix (.lst _) (d := .lst (pD (ja c.ahead))) rfl ?_
  walk_at "ev"
  refine o2_ix (.lst _) (d := .lst (pD (ja c.row))) rfl ?_
  walk_at "ev"
  refine o2_ix (.lst _) (d := .lst (pD (ja c.rest))) rfl ?_
  walk_at "ev"
  refine ⟨_, ⟨_, _, c.rounds, _, rfl, rfl⟩, ?_⟩
  walk_at "ev"
  exact ⟨_, ⟨(t.first, 0), ⟨ja c.ahead, ja c.row, c.rounds, ja c.rest⟩, rfl, ok0, ok1, rfl⟩, rfl⟩
/-- a member's trains -/
def memT (m : Mb) (t : Tr) (i : Nat) : Tr :=
  match m.k with
  | .last => lastT m.q t i
  | .first => firstT m.q t i
  | _ => if i = 0 then t else ⟨0, [], [1], cntOf t - 1, []⟩
def sMemberTrains (K : PySem.W.Frag) : List D → D → Prop := fun ds d => ∃ (m : Mb) (t : Tr), ds = [mD K m, trD K t] ∧ m.k ≠ .limit ∧ TrOk t ∧ TrOk (memT m t 0) ∧ TrOk (memT m t 1) ∧ d = .lst [trD K (memT m t 0), trD K (memT m t 1)]
theorem c_member_trains (T : Tx K mg) : Cal P w K mg base 7 "member_trains" (spD K (sMemberTrains K)) [] := by
  refine calD T.fn_member_trains T.mg_member_trains sc_member_trains b_member_trains (fun hr => d_member_trains T hr) (pureP_len ?_) ?_
  · rintro ds d ⟨q, t, rfl, _, _, _, _, rfl⟩; rfl
  rintro ds M R ⟨rfl, d, ⟨⟨k, q⟩, t, rfl, hk, ok, ok0, ok1, rfl⟩, rfl⟩
  unfold t_member_trains
  walk_at "ev"
  refine ol_isi (ty_mb T k q) (.own _) (kit_k T k .last hk) ?_
  cases k with
  | limit => exact absurd rfl hk
  | last =>
    walk_at "ev"
    refine itT ?_
    walk_at "ev"
    refine evr_call (c_last_trains T) (by decide) ?_
    walk_at "ev"
    exact ⟨_, ⟨q, t, rfl, ok, ok0, ok1, rfl⟩, rfl⟩
  | first =>
    walk_at "ev"
    refine itF ?_
    walk_at "ev"
    refine ol_isi (ty_mb T .first q) (.own _) (kit_k T .first .first hk) ?_
    walk_at "ev"
    refine itT ?_
    walk_at "ev"
    refine evr_call (c_first_trains T) (by decide) ?_
    walk_at "ev"
    exact ⟨_, ⟨q, t, rfl, ok, ok0, ok1, rfl⟩, rfl⟩
  | delay =>
    walk_at "ev"
    refine itF ?_
    walk_at "ev"
    refine ol_isi (ty_mb T .delay q) (.own _) (kit_k T .delay .first hk) ?_
    walk_at "ev"
    refine itF ?_
    walk_at "ev"
    refine ol_isi (ty_mb T .delay q) (.own _) (kit_k T .delay .limit hk) ?_
    walk_at "ev"
    refine itF ?_
    walk_at "ev"
    refine evr_make (k_Train T) (by decide) ?_
    walk_at "ev"
    refine evr_call (c_amount_of T) (by decide) ?_
    walk_at "ev"
    refine ⟨_, ⟨t, rfl, ok, rfl⟩, ?_⟩
    walk_at "ev"
    have hc : (cntOf t : Int) - 1 = ((cntOf t - 1 : Nat) : Int) := by unfold cntOf; omega
    rw [hc]
    refine ⟨_, ⟨⟨0, [], [1], cntOf t - 1, []⟩, _, _, _, rfl, .lst _, .lst _, .lst _, ok1, rfl⟩, ?_⟩
    walk_at "ev"
    rfl
def foldT (ms : List Mb) (t : Tr) : Tr := ms.foldl (fun t m => memT m t 0) t
/-- what the levels ask -/
def LvOk (ms : List Mb) (t : Tr) : Prop := (∀ i, i < ms.length → TrOk (foldT (ms.take i) t) ∧ TrOk (memT (ms.getD i ⟨.last, 0⟩) (foldT (ms.take i) t) 0) ∧ TrOk (memT (ms.getD i ⟨.last, 0⟩) (foldT (ms.take i) t) 1)) ∧ TrOk (foldT ms t)
def sLevelsOf (K : PySem.W.Frag) : List D → D → Prop := fun ds d => ∃ (ms : List Mb) (t : Tr), ds = [rowD K ms, trD K t] ∧ NoL ms ∧ ms.length ≤ 90000 ∧ LvOk ms t ∧ d = .tup [.any, trD K (foldT ms t)]
theorem c_levels_of (T : Tx K mg) : Cal P w K mg base 8 "levels_of" (spD K (sLevelsOf K)) [] := by
  refine calD T.fn_levels_of T.mg_levels_of sc_levels_of b_levels_of (fun hr => d_levels_of T hr) (pureP_len ?_) ?_
  · rintro ds d ⟨q, t, rfl, _, _, _, rfl⟩; rfl
  rintro ds M R ⟨rfl, d, ⟨ms, t, rfl, hl, hn, ⟨lv, _⟩, rfl⟩, rfl⟩
  unfold t_levels_of
  walk_at "ev"
  intro p hp
  walk_at "ev"
  refine st_for (is := [3]) (itr_seq ?_)
  walk_at "ev"
  refine ⟨_, _, .tup _, fun i ρ' M' => (∃ xs, M' = [(p, .lst xs)] ∧ xs.length ≤ i) ∧ ∃ a3 a4 a5, ρ' = [some (rowD K ms), some (trD K (foldT (ms.take i) t)), some (.loc p), a3, a4, a5], ⟨⟨[], rfl, Nat.le_refl _⟩, _, _, _, rfl⟩, ?_, ?_⟩
  · rintro i d ρ' M' hd ⟨⟨xs, rfl, hxs⟩, a3, a4, a5, rfl⟩
    obtain ⟨hi, rfl⟩ := map_get ⟨.last, 0⟩ hd
    obtain ⟨ok, ok0, ok1⟩ := lv i hi
    have hml := hl _ (getD_mem ⟨.last, 0⟩ hi)
    have he : foldT (ms.take (i + 1)) t = memT (ms.getD i ⟨.last, 0⟩) (foldT (ms.take i) t) 0 := foldl_take (f := fun t m => memT m t 0) (b := t) ⟨.last, 0⟩ hi
    generalize foldT (ms.take i) t = u at *
    generalize ms.getD i ⟨.last, 0⟩ = m at *
    refine tg_name ?_
    walk_at "ev"
    refine st_asg (is := is2 4 5) (evr_call (c_member_trains T) (by decide) ?_)
    walk_at "ev"
    refine ⟨_, ⟨m, u, rfl, hml, ok, ok0, ok1, rfl⟩, ?_⟩
    refine tg_unl rfl ?_
    walk_at "ev"
    refine evr_make (k_Ruler T) (by decide) ?_
    walk_at "ev"
    refine ⟨_, ⟨_, rfl, ok1, rfl⟩, ?_⟩
    walk_at "ev"
    refine evr_call (c_amount_of T) (by decide) ?_
    walk_at "ev"
    refine ⟨_, ⟨u, rfl, ok, rfl⟩, ?_⟩
    walk_at "ev"
    · omega
    · refine ⟨⟨_, rfl, by rw [List.length_append]; exact Nat.add_le_add_right hxs 1⟩, some (mD K m), some (trD K (memT m u 0)), some (trD K (memT m u 1)), ?_⟩
      rw [he]
      rfl
  · rintro ρ' M' ⟨⟨xs, rfl, _⟩, a3, a4, a5, rfl⟩
    rw [List.length_map, List.take_length]
    refine st_ret (evr_tup (ear_c (evr_any ?_)))
    walk_at "ev"
    rfl
def toldT (ms : List Mb) (t : Tr) : Tr := { foldT ms t with first := (foldT ms t).first + late ms }
def sTrainTold (K : PySem.W.Frag) : List D → D → Prop := fun ds d => ∃ (ms : List Mb) (t : Tr), ds = [rowD K ms, trD K t] ∧ NoL ms ∧ ms.length ≤ 90000 ∧ LvOk ms t ∧ d = trD K (toldT ms t)
theorem c_train_told (T : Tx K mg) : Cal P w K mg base 9 "train_told" (spD K (sTrainTold K)) [] := by
  refine calD T.fn_train_told T.mg_train_told sc_train_told b_train_told (fun hr => d_train_told T hr) (pureP_len ?_) ?_
  · rintro ds d ⟨q, t, rfl, _, _, _, rfl⟩; rfl
  rintro ds M R ⟨rfl, d, ⟨ms, t, rfl, hl, hn, lv, rfl⟩, rfl⟩
  unfold t_train_told
  walk_at "ev"
  refine evr_call (c_levels_of T) (by decide) ?_
  walk_at "ev"
  refine ⟨_, ⟨ms, t, rfl, hl, hn, lv, rfl⟩, ?_⟩
  walk_at "ev"
  refine o2_ix (.tup _) (d := trD K (foldT ms t)) rfl ?_
  walk_at "ev"
  refine evr_make (k_Train T) (by decide) ?_
  walk_at "ev"
  refine ev_meth ?_
  walk_at "ev"
  refine ⟨_, _, 2, _, .ins _ _, rfl, m_delays T, by decide, ?_⟩
  walk_at "ev"
  refine ⟨_, ⟨ms, rfl, hl, by omega, rfl⟩, ?_⟩
  walk_at "ev"
  refine ⟨_, ⟨toldT ms t, _, _, _, rfl, .tup _, .tup _, .tup _, ?_, rfl⟩, ?_⟩
  · exact lv.2
  · rfl
end

/-! #### W9 -/
section
variable {P : Program} {w : World} {K : PySem.W.Frag} {mg : Str → Option Value} {base : Heap}
/-! ### promises of a value that is told by a property -/
def pureE (p : List D → (D → Prop) → Prop) : List D → Mem → (D → Mem → Prop) → Prop := fun ds M R => M = [] ∧ ∃ Q, p ds Q ∧ R = fun d _ => Q d
abbrev spE (K : PySem.W.Frag) (p : List D → (D → Prop) → Prop) : Sp := spM K (pureE p)
theorem pureE_len {p : List D → (D → Prop) → Prop} {n : Nat} (h : ∀ ds d, p ds d → ds.length = n) : ∀ ds M R, pureE p ds M R → ds.length = n := fun ds M R ⟨_, d, hp, _⟩ => h ds d hp
theorem evr_callE {ρ : Sl} {M : Mem} {R : D → Mem → Prop} {t : TA} {j k : Nat} {x : Str} {p : List D → (D → Prop) → Prop} (c : Cal P w K mg base k x (spE K p) []) (hk : k ≤ j) (h : EaR K t ρ M fun ds M1 => ∃ Q, p ds Q ∧ ∀ d, Q d → R d M1) : EvR K (tCallX P w K mg base j x t) ρ M R := fun F0 H0 F H σ S W Q q =>
  h F0 H0 F H σ S W _ fun vs ds M1 F1 H1 e1 W1 r1 ⟨Qd, hp, z⟩ => ⟨_, k, c, hk, sp_in (Ma := []) (Mb := M1) r1 W1 ⟨rfl, Qd, hp, rfl⟩ fun v d' Ma' F' H' e W' r k => q v d' M1 F' H' (e1.trans e) W'.sub r (z d' k)⟩
/-! ### records -/
abbrev Rec := Kd × Int
abbrev rcD (rs : List Rec) : List D := rs.map Enc.en
def sSettled1 : List D → D → Prop := fun ds d => ∃ r : Rec, ds = [Enc.en r] ∧ d = Enc.en r
theorem c_settled1 (T : Tx K mg) : Cal P w K mg base 1 "settled_tuple" (spD K sSettled1) [] := by
  refine calD T.fn_settled_tuple T.mg_settled_tuple sc_settled_tuple b_settled_tuple (fun hr => d_settled_tuple T hr) (pureP_len ?_) ?_
  · rintro ds d ⟨r, rfl, rfl⟩; rfl
  rintro ds M R ⟨rfl, d, ⟨⟨k, q⟩, rfl, rfl⟩, rfl⟩
  unfold t_settled_tuple
  walk_at "ev"
  refine evr_lcm (α := Bool) (is := [1]) (by decide) (itr_seq ?_)
  walk_at "ev"
  refine ⟨_, _, .tup _, [true, false], fun b => if b then .str k.str else .int q, fun b => if b then .str k.str else .int q, rfl, by show 2 ≤ 100000; omega, ?_, ?_⟩
  · intro b hb
    cases b
    · refine tg_name ?_
      walk_at "ev"
      refine ol_isiT (.int q) (.cons (.ty _) (.cons (.ty _) .nil)) (b := false) (by rfl) ?_
      walk_at "ev"
      exact ⟨rfl, rfl⟩
    · refine tg_name ?_
      walk_at "ev"
      refine ol_isiT (.str k.str) (.cons (.ty _) (.cons (.ty _) .nil)) (b := false) (by rfl) ?_
      walk_at "ev"
      exact ⟨rfl, rfl⟩
  · exact ⟨_, _, .lst _, (fun e => nomatch e), rfl⟩
def sSettled2 : List D → D → Prop := fun ds d => ∃ rs : List Rec, ds = [.tup (rcD rs)] ∧ rs.length ≤ 90000 ∧ d = .tup (rcD rs)
theorem c_settled2 (T : Tx K mg) : Cal P w K mg base 2 "settled_tuple" (spD K sSettled2) [] := by
  refine calD T.fn_settled_tuple T.mg_settled_tuple sc_settled_tuple b_settled_tuple (fun hr => d_settled_tuple T hr) (pureP_len ?_) ?_
  · rintro ds d ⟨r, rfl, _, rfl⟩; rfl
  rintro ds M R ⟨rfl, d, ⟨rs, rfl, hn, rfl⟩, rfl⟩
  unfold t_settled_tuple
  walk_at "ev"
  refine evr_lcm (α := Rec) (is := [1]) (by decide) (itr_seq ?_)
  walk_at "ev"
  refine ⟨_, _, .tup _, rs, Enc.en, Enc.en, rfl, by omega, ?_, ?_⟩
  · intro r hr
    refine tg_name ?_
    walk_at "ev"
    refine ol_isiT (.tup _) (.cons (.ty _) (.cons (.ty _) .nil)) (b := true) (by rfl) ?_
    walk_at "ev"
    refine evr_call (c_settled1 T) (by decide) ?_
    walk_at "ev"
    exact ⟨_, ⟨r, rfl, rfl⟩, rfl, rfl⟩
  · exact ⟨_, _, .lst _, (fun e => nomatch e), rfl⟩
def nrF (rs : List Rec) (l : Int) : List (Str × D) := [("records", .tup (rcD rs)), ("delay", .int l)]
abbrev nrD (K : PySem.W.Frag) (rs : List Rec) (l : Int) : D := .ins (He.ga K "Normal") (nrF rs l)
def pNormal : List D → List (Str × D) → Prop := fun ds fs => ∃ rs l, ds = [.tup (rcD rs), .int l] ∧ rs.length ≤ 90000 ∧ fs = nrF rs l
theorem k_Normal (T : Tx K mg) : Mak P w K mg base 3 "Normal" (He.ga K "Normal") (spI K (He.ga K "Normal") pNormal) [] := by
  refine makD T.fn_Normal_D_initD_ T.mk_Normal T.mg_Normal sc_NormalD__initD_ b_NormalD__initD_ (fun hr => d_NormalD__initD_ T hr) (initP_len ?_) ?_
  · rintro ds fs ⟨rs, l, rfl, _, rfl⟩; rfl
  rintro ds M R ⟨y, ds', fs, rfl, rfl, ⟨rs, l, rfl, hn, rfl⟩, rfl⟩
  unfold t_NormalD__initD_
  walk_at "ev"
  refine ol_isiT (.tup _) (.cons (.ty _) (.cons (.ty _) .nil)) (b := true) (by rfl) ?_
  walk_at "ev"
  refine evr_call (c_settled2 T) (by decide) ?_
  walk_at "ev"
  refine ⟨_, ⟨rs, rfl, hn, rfl⟩, ?_⟩
  walk_at "ev"
  exact ⟨rfl, rfl⟩
def sNormalCn (K : PySem.W.Frag) : List D → D → Prop := fun ds d => ∃ rs l, ds = [nrD K rs l] ∧ d = .str "normal"
theorem m_Normal_class_name (T : Tx K mg) : Met P w K mg base 1 (He.ga K "Normal") "class_name" (spD K (sNormalCn K)) [] := by
  refine metD T.fn_Normal_class_name T.cl_Normal T.me_Normal_class_name sc_Normal.class_name b_Normal.class_name (fun hr => d_Normal.class_name T hr) (pureP_len ?_) ?_
  · rintro ds d ⟨rs, l, rfl, rfl⟩; rfl
  rintro ds M R ⟨rfl, d, ⟨rs, l, rfl, rfl⟩, rfl⟩
  unfold t_Normal.class_name
  walk_at "ev"
  rfl
def sNormalFacts (K : PySem.W.Frag) : List D → D → Prop := fun ds d => ∃ rs l, ds = [nrD K rs l] ∧ d = .tup [.tup (rcD rs), .int l]
theorem m_Normal_facts (T : Tx K mg) : Met P w K mg base 1 (He.ga K "Normal") "facts" (spD K (sNormalFacts K)) [] := by
  refine metD T.fn_Normal_facts T.cl_Normal T.me_Normal_facts sc_Normal.facts b_Normal.facts (fun hr => d_Normal.facts T hr) (pureP_len ?_) ?_
  · rintro ds d ⟨rs, l, rfl, rfl⟩; rfl
  rintro ds M R ⟨rfl, d, ⟨rs, l, rfl, rfl⟩, rfl⟩
  unfold t_Normal.facts
  walk_at "ev"
  rfl
def sClassName (K : PySem.W.Frag) (k : Kd) : List D → D → Prop := fun ds d => ∃ q : Int, ds = [mbD K k q] ∧ d = .str k.str
theorem m_class_name (T : Tx K mg) (k : Kd) (h1 : k ≠ .limit) (h2 : k ≠ .delay) : Met P w K mg base 1 (He.ga K k.cls) "class_name" (spD K (sClassName K k)) [] := by
  have hl : ∀ ds d, sClassName K k ds d → ds.length = 1 := by rintro ds d ⟨q, rfl, rfl⟩; rfl
  cases k with
  | limit => exact absurd rfl h1
  | delay => exact absurd rfl h2
  | last =>
    refine metD T.fn_Last_class_name T.cl_Last T.me_Last_class_name sc_Last.class_name b_Last.class_name (fun hr => d_Last.class_name T hr) (pureP_len hl) ?_
    rintro ds M R ⟨rfl, d, ⟨q, rfl, rfl⟩, rfl⟩
    unfold t_Last.class_name
    walk_at "ev"
    rfl
  | first =>
    refine metD T.fn_First_class_name T.cl_First T.me_First_class_name sc_First.class_name b_First.class_name (fun hr => d_First.class_name T hr) (pureP_len hl) ?_
    rintro ds M R ⟨rfl, d, ⟨q, rfl, rfl⟩, rfl⟩
    unfold t_First.class_name
    walk_at "ev"
    rfl
/-! ### which members count -/
def rpF : Nat → Int → List Mb → List Nat
  | _, _, [] => []
  | i, most, m :: ms => if m.k ≠ .delay ∧ most < m.q then i :: rpF (i + 1) m.q ms else rpF (i + 1) most ms
theorem rpF_mem : ∀ (ms : List Mb) (i : Nat) (most : Int), ∀ x ∈ rpF i most ms, ∃ j, x = i + j ∧ j < ms.length ∧ (ms.getD j ⟨.last, 0⟩).k ≠ .delay
  | [], _, _, x, h => by cases h
  | m :: ms, i, most, x, h => by
    unfold rpF at h
    have rc : ∀ mo, x ∈ rpF (i + 1) mo ms → ∃ j, x = i + j ∧ j < (m :: ms).length ∧ ((m :: ms).getD j ⟨.last, 0⟩).k ≠ .delay := fun mo hx => by
      obtain ⟨j, e, hj, hk⟩ := rpF_mem ms (i + 1) mo x hx
      exact ⟨j + 1, by omega, by rw [List.length_cons]; omega, hk⟩
    split at h
    · rename_i hc
      rcases List.mem_cons.mp h with rfl | h
      · exact ⟨0, rfl, Nat.succ_pos _, hc.1⟩
      · exact rc _ h
    · exact rc _ h
theorem rpF_len : ∀ (ms : List Mb) (i : Nat) (most : Int), (rpF i most ms).length ≤ ms.length
  | [], _, _ => Nat.le_refl _
  | m :: ms, i, most => by
    unfold rpF
    split
    · rw [List.length_cons, List.length_cons]; exact Nat.succ_le_succ (rpF_len ms _ _)
    · exact Nat.le_trans (rpF_len ms _ _) (Nat.le_succ _)
def sRecordPlaces (K : PySem.W.Frag) : List D → D → Prop := fun ds d => ∃ ms : List Mb, ds = [.tup (ms.map (mD K))] ∧ NoL ms ∧ ms.length ≤ 90000 ∧ d = .lst (naD (rpF 0 1 ms))
theorem drop_getD {α : Type} {xs : List α} {i : Nat} (a : α) (h : i < xs.length) : xs.drop i = xs.getD i a :: xs.drop (i + 1) := by
  rw [List.drop_eq_getElem_cons h, List.getD_eq_getElem?_getD, List.getElem?_eq_getElem h]; rfl
theorem fld_q (T : Tx K mg) {k : Kd} {q : Int} (hk : k ≠ .delay) : ∃ (C : Addr) (fs : List (Str × D)), (∀ M, IsIns M (mbD K k q) C fs) ∧ Cls K C ∧ NoAttr K C "q" ∧ fs.lookup ("q" : Str) = some (.int q) := by
  cases k with
  | delay => exact absurd rfl hk
  | last => exact ⟨_, _, fun _ => .ins _ _, T.cl_Last, T.no_Last_q, rfl⟩
  | first => exact ⟨_, _, fun _ => .ins _ _, T.cl_First, T.no_First_q, rfl⟩
  | limit => exact ⟨_, _, fun _ => .ins _ _, T.cl_Limit, T.no_Limit_q, rfl⟩
theorem c_record_places (T : Tx K mg) : Cal P w K mg base 1 "record_places" (spD K (sRecordPlaces K)) [] := by
  refine calD T.fn_record_places T.mg_record_places sc_record_places b_record_places (fun hr => d_record_places T hr) (pureP_len ?_) ?_
  · rintro ds d ⟨r, rfl, _, _, rfl⟩; rfl
  rintro ds M R ⟨rfl, d, ⟨ms, rfl, hl, hn, rfl⟩, rfl⟩
  unfold t_record_places
  refine st_seq (st_par (ear_c (evr_lstO (ear_nil ⟨Nat.zero_le _, fun p hp => ?_⟩))))
  walk_at "ev"
  refine st_for (is := is2 3 4) (itr_enumX ?_)
  walk_at "ev"
  refine ⟨_, _, _, rfl, .tup _, ?_⟩
  rw [enD_map]
  refine ⟨fun i ρ' M' => ∃ f most, M' = [(p, .lst (naD f))] ∧ f.length ≤ i ∧ f ++ rpF i most (ms.drop i) = rpF 0 1 ms ∧ ∃ a b, ρ' = [some (.tup (ms.map (mD K))), some (.loc p), some (.int most), a, b], ⟨[], 1, rfl, Nat.le_refl _, rfl, _, _, rfl⟩, ?_, ?_⟩
  · rintro i d ρ' M' hd ⟨f, most, rfl, hfl, hf, a, b, rfl⟩
    obtain ⟨hi, rfl⟩ := enM_get ⟨.last, 0⟩ hd
    rw [drop_getD ⟨.last, 0⟩ hi] at hf
    have hml := hl _ (getD_mem ⟨.last, 0⟩ hi)
    generalize ms.getD i ⟨.last, 0⟩ = m at *
    rw [show rpF i most (m :: ms.drop (i + 1)) = if m.k ≠ .delay ∧ most < m.q then i :: rpF (i + 1) m.q (ms.drop (i + 1)) else rpF (i + 1) most (ms.drop (i + 1)) from rfl] at hf
    walk_at "ev"
    refine ol_isi (ty_mb T m.k m.q) (.own _) (kit_k T m.k .delay hml) ?_
    walk_at "ev"
    refine itnD (fun h => ?_) (fun h => ?_)
    · obtain ⟨C, fs, i1, c1, n1, l1⟩ := fld_q T (q := m.q) h
      walk_at "ev"
      refine ⟨C, fs, _, i1 _, c1, n1, l1, ?_⟩
      walk_at "ev"
      refine itD (fun h1 => ?_) (fun h1 => ?_)
      · walk_at "ev"
        · rw [List.length_map]; omega
        walk_at "ev"
        refine ⟨C, fs, _, i1 _, c1, n1, l1, ?_⟩
        rw [if_pos ⟨h, h1⟩] at hf
        exact ⟨f ++ [i], m.q, by rw [naD_snoc], by rw [List.length_append]; exact Nat.add_le_add_right hfl 1, by rw [List.append_assoc]; exact hf, _, _, rfl⟩
      · rw [if_neg (fun z => h1 z.2)] at hf
        walk_at "ev"
        exact ⟨f, most, rfl, by omega, hf, _, _, rfl⟩
    · rw [if_neg (fun z => z.1 h)] at hf
      walk_at "ev"
      exact ⟨f, most, rfl, by omega, hf, _, _, rfl⟩
  · rintro ρ' M' ⟨f, most, rfl, hfl, hf, a, b, rfl⟩
    rw [enM_len, List.drop_length] at hf
    rw [show rpF ms.length most [] = [] from rfl, List.append_nil] at hf
    refine st_frz (i := 1) rfl (List.Perm.refl _) ?_
    walk_at "ev"
    show D.lst _ = D.lst _
    rw [hf]
def recOf (ms : List Mb) (i : Nat) : Rec := ((ms.getD i ⟨.last, 0⟩).k, (ms.getD i ⟨.last, 0⟩).q)
def recsOf (ms : List Mb) : List Rec := (rpF 0 1 ms).map (recOf ms)
def sRecordsIn (K : PySem.W.Frag) : List D → D → Prop := fun ds d => ∃ ms : List Mb, ds = [.tup (ms.map (mD K))] ∧ NoL ms ∧ ms.length ≤ 90000 ∧ d = .tup (rcD (recsOf ms))
theorem c_records_in (T : Tx K mg) : Cal P w K mg base 2 "records_in" (spD K (sRecordsIn K)) [] := by
  refine calD T.fn_records_in T.mg_records_in sc_records_in b_records_in (fun hr => d_records_in T hr) (pureP_len ?_) ?_
  · rintro ds d ⟨r, rfl, _, _, rfl⟩; rfl
  rintro ds M R ⟨rfl, d, ⟨ms, rfl, hl, hn, rfl⟩, rfl⟩
  unfold t_records_in
  walk_at "ev"
  refine evr_lcm (α := Nat) (is := [1]) (by decide) (itr_seq (evr_call (c_record_places T) (by decide) ?_))
  walk_at "ev"
  refine ⟨_, ⟨ms, rfl, hl, hn, rfl⟩, _, _, .lst _, rpF 0 1 ms, nat, fun i => Enc.en (recOf ms i), rfl, by have := rpF_len ms 0 1; omega, ?_, ?_⟩
  · intro i hi
    obtain ⟨j, e, hj, hk⟩ := rpF_mem ms 0 1 i hi
    rw [Nat.zero_add] at e
    subst e
    have hml := hl _ (getD_mem ⟨.last, 0⟩ hj)
    unfold recOf
    refine tg_name ?_
    walk_at "ev"
    refine ev_meth ?_
    walk_at "ev"
    refine o2_ixF ⟨.last, 0⟩ (.tup _) i rfl hj ?_
    refine ⟨_, _, 1, _, .ins _ _, look_w _ _ _ (.inr (.inr rfl)), m_class_name T _ hml hk, by decide, ?_⟩
    walk_at "ev"
    refine ⟨_, ⟨_, rfl, rfl⟩, ?_⟩
    walk_at "ev"
    refine o2_ixF ⟨.last, 0⟩ (.tup _) i rfl hj ?_
    obtain ⟨C, fs, i1, c1, n1, l1⟩ := fld_q T (q := (ms.getD i ⟨.last, 0⟩).q) hk
    refine ⟨C, fs, _, i1 _, c1, n1, l1, ?_⟩
    walk_at "ev"
    exact ⟨rfl, rfl⟩
  · refine ⟨_, _, .lst _, (fun e => nomatch e), ?_⟩
    show D.tup _ = D.tup _
    unfold recsOf
    rw [rcD, List.map_map]; rfl
end

/-! #### W10 -/
section
variable {P : Program} {w : World} {K : PySem.W.Frag} {mg : Str → Option Value} {base : Heap}
def sRecordsOf (K : PySem.W.Frag) : List D → D → Prop := fun ds d => ∃ ms : List Mb, ds = [rowD K ms] ∧ NoL ms ∧ ms.length ≤ 90000 ∧ d = .tup (rcD (recsOf ms))
theorem c_records_of (T : Tx K mg) : Cal P w K mg base 3 "records_of" (spD K (sRecordsOf K)) [] := by
  refine calD T.fn_records_of T.mg_records_of sc_records_of b_records_of (fun hr => d_records_of T hr) (pureP_len ?_) ?_
  · rintro ds d ⟨r, rfl, _, _, rfl⟩; rfl
  rintro ds M R ⟨rfl, d, ⟨ms, rfl, hl, hn, rfl⟩, rfl⟩
  unfold t_records_of
  walk_at "ev"
  refine evr_call (c_records_in T) (by decide) ?_
  walk_at "ev"
  exact ⟨_, ⟨ms, rfl, hl, hn, rfl⟩, rfl⟩
theorem recs_len (ms : List Mb) : (recsOf ms).length ≤ ms.length := by unfold recsOf; rw [List.length_map]; exact rpF_len ..
def sNormalForm (K : PySem.W.Frag) : List D → D → Prop := fun ds d => ∃ ms : List Mb, ds = [rowD K ms] ∧ NoL ms ∧ ms.length ≤ 90000 ∧ d = nrD K (recsOf ms) (late ms)
theorem c_normal_form (T : Tx K mg) : Cal P w K mg base 5 "normal_form" (spD K (sNormalForm K)) [] := by
  refine calD T.fn_normal_form T.mg_normal_form sc_normal_form b_normal_form (fun hr => d_normal_form T hr) (pureP_len ?_) ?_
  · rintro ds d ⟨r, rfl, _, _, rfl⟩; rfl
  rintro ds M R ⟨rfl, d, ⟨ms, rfl, hl, hn, rfl⟩, rfl⟩
  unfold t_normal_form
  walk_at "ev"
  refine evr_make (k_Normal T) (by decide) ?_
  walk_at "ev"
  refine evr_call (c_records_of T) (by decide) ?_
  walk_at "ev"
  refine ⟨_, ⟨ms, rfl, hl, hn, rfl⟩, ?_⟩
  walk_at "ev"
  refine ev_meth ?_
  walk_at "ev"
  refine ⟨_, _, 2, _, .ins _ _, rfl, m_delays T, by decide, ?_⟩
  walk_at "ev"
  refine ⟨_, ⟨ms, rfl, hl, by omega, rfl⟩, ?_⟩
  walk_at "ev"
  exact ⟨_, ⟨_, _, rfl, Nat.le_trans (recs_len ms) hn, rfl⟩, rfl⟩
theorem o2_notInN {M : Mem} {R : D → Mem → Prop} {i : Nat} {ns : List Nat} {l : Bool} {y : D} (it : Items M y l (naD ns)) (k : R (.bl (!decide (i ∈ ns))) M) : O2 K (rNotInX K) (nat i) y M R := by
  have e : naD ns = (ns.map fun n : Nat => (n : Int)).map D.int := by rw [List.map_map]; rfl
  rw [e] at it
  refine o2_notInI it ?_
  have e2 : decide ((i : Int) ∈ ns.map fun n : Nat => (n : Int)) = decide (i ∈ ns) := by
    refine decide_eq_decide.mpr ⟨fun h => ?_, fun h => List.mem_map_of_mem h⟩
    obtain ⟨j, hj, e⟩ := List.mem_map.mp h
    have : j = i := by omega
    exact this ▸ hj
  rw [e2]
  exact k
def idleOf (ms : List Mb) : List Nat := (List.range ms.length).filter fun i => !decide (i ∈ rpF 0 1 ms)
def sIdle (K : PySem.W.Frag) : List D → D → Prop := fun ds d => ∃ ms : List Mb, ds = [rowD K ms] ∧ NoL ms ∧ ms.length ≤ 90000 ∧ d = .lst (naD (idleOf ms))
theorem c_idle_members (T : Tx K mg) : Cal P w K mg base 2 "idle_members" (spD K (sIdle K)) [] := by
  refine calD T.fn_idle_members T.mg_idle_members sc_idle_members b_idle_members (fun hr => d_idle_members T hr) (pureP_len ?_) ?_
  · rintro ds d ⟨r, rfl, _, _, rfl⟩; rfl
  rintro ds M R ⟨rfl, d, ⟨ms, rfl, hl, hn, rfl⟩, rfl⟩
  unfold t_idle_members
  walk_at "ev"
  refine evr_call (c_record_places T) (by decide) ?_
  walk_at "ev"
  refine ⟨_, ⟨ms, rfl, hl, hn, rfl⟩, ?_⟩
  walk_at "ev"
  refine evr_lcf (α := Nat) (is := [2]) (by decide) (itr_rng1 ?_)
  walk_at "ev"
  rw [List.length_map]
  refine ⟨⟨by omega, by omega⟩, List.range ms.length, nat, nat, fun i => !decide (i ∈ rpF 0 1 ms), by rw [Int.toNat_natCast, rgD_map], by rw [List.length_range]; omega, ?_, rfl⟩
  intro i hi
  walk_at "ev"
  refine o2_notInN (.lst _) ?_
  walk_at "ev"
  refine ⟨rfl, rfl, fun _ => ?_⟩
  walk_at "ev"
  exact ⟨rfl, rfl⟩
def ru (n p : Int) : Int := -((-n) / p)
theorem ru_nn {n p : Int} (h : 0 ≤ n) (hp : 0 < p) : 0 ≤ ru n p := by
  unfold ru
  have : -n / p ≤ 0 := by
    refine Int.ediv_nonpos_of_nonpos_of_neg ?_ ?_ <;> omega
  omega
def sRoundedUp : List D → D → Prop := fun ds d => ∃ n p : Int, ds = [.int n, .int p] ∧ 0 < p ∧ p < 2 ^ 60 ∧ d = .int (ru n p)
theorem divW {p n : Int} (h : 0 < p) (h2 : p < 2 ^ 60) : CDivW n p := ⟨h, by
  rw [Nat.log2_lt (by omega)]
  refine Nat.lt_of_lt_of_le (show p.natAbs < 2 ^ 60 by omega) (Nat.pow_le_pow_right (by decide) (by decide))⟩
theorem c_rounded_up (T : Tx K mg) : Cal P w K mg base 1 "rounded_up" (spD K sRoundedUp) [] := by
  refine calD T.fn_rounded_up T.mg_rounded_up sc_rounded_up b_rounded_up (fun hr => d_rounded_up T hr) (pureP_len ?_) ?_
  · rintro ds d ⟨n, p, rfl, _, _, rfl⟩; rfl
  rintro ds M R ⟨rfl, d, ⟨n, p, rfl, hp, hp2, rfl⟩, rfl⟩
  unfold t_rounded_up
  walk_at "ev"
  refine o2_fdivI (divW hp hp2) ?_
  walk_at "ev"
  rfl
def grq (rs : List Rec) : Int := rs.foldl (fun m r => if m < r.2 then r.2 else m) 1
theorem grq_spec : ∀ (rs : List Rec) (m : Int), (rs.foldl (fun m r => if m < r.2 then r.2 else m) m ∈ m :: rs.map (fun r => r.2)) ∧ ∀ y ∈ m :: rs.map (fun r => r.2), y ≤ rs.foldl (fun m r => if m < r.2 then r.2 else m) m
  | [], m => ⟨List.mem_cons_self .., fun y hy => by rw [List.mem_singleton.mp hy]; exact Int.le_refl _⟩
  | r :: rs, m => by
    rw [List.foldl_cons, List.map_cons]
    obtain ⟨h1, h2⟩ := grq_spec rs (if m < r.2 then r.2 else m)
    have hm := h2 _ (List.mem_cons_self ..)
    by_cases h : m < r.2
    · rw [if_pos h] at h1 h2 hm ⊢
      refine ⟨List.mem_cons_of_mem _ h1, fun y hy => ?_⟩
      rcases List.mem_cons.mp hy with rfl | hy
      · omega
      · exact h2 y hy
    · rw [if_neg h] at h1 h2 hm ⊢
      refine ⟨?_, fun y hy => ?_⟩
      · rcases List.mem_cons.mp h1 with e | h1
        · rw [e]; exact List.mem_cons_self ..
        · exact List.mem_cons_of_mem _ (List.mem_cons_of_mem _ h1)
      · rcases List.mem_cons.mp hy with rfl | hy
        · exact hm
        · rcases List.mem_cons.mp hy with rfl | hy
          · omega
          · exact h2 y (List.mem_cons_of_mem _ hy)
def sGreatest : List D → D → Prop := fun ds d => ∃ (x : D) (rs : List Rec), ds = [x] ∧ LT x (rcD rs) ∧ rs.length ≤ 90000 ∧ d = .int (grq rs)
theorem c_greatest_quiet (T : Tx K mg) : Cal P w K mg base 1 "greatest_quiet" (spD K sGreatest) [] := by
  refine calD T.fn_greatest_quiet T.mg_greatest_quiet sc_greatest_quiet b_greatest_quiet (fun hr => d_greatest_quiet T hr) (pureP_len ?_) ?_
  · rintro ds d ⟨x, rs, rfl, _, _, rfl⟩; rfl
  rintro ds M R ⟨rfl, d, ⟨x, rs, rfl, hx, hn, rfl⟩, rfl⟩
  unfold t_greatest_quiet
  walk_at "ev"
  obtain ⟨l, fz⟩ := hx.frz
  refine evr_lcm (α := Rec) (is := is2 1 2) (by decide) (itr_seq ?_)
  walk_at "ev"
  refine ⟨l, _, fz, rs, Enc.en, fun r => .int r.2, rfl, by omega, ?_, ?_⟩
  · rintro ⟨k, q⟩ hr
    show TgR _ _ K (.tup [.str k.str, .int q]) _ _
    walk_at "ev"
    exact ⟨rfl, rfl⟩
  refine o2_addL (.lst _) (.lst _) (by rw [List.length_map]; show 1 + rs.length ≤ 100000; omega) ?_
  walk_at "ev"
  refine ol_max (ns := 1 :: rs.map fun r => r.2) (by rw [List.map_cons, List.map_map]; exact .lst _) (Nat.succ_pos _) fun m h1 h2 => ?_
  obtain ⟨g1, g2⟩ := grq_spec rs 1
  have : m = grq rs := Int.le_antisymm (g2 m h1) (h2 _ g1)
  show D.int m = D.int (grq rs)
  rw [this]
def fate (gap : Int) : List Rec → Int
  | [] => 2
  | r :: rs => if gap < r.2 then (if r.1 = .last then 1 else 0) else fate gap rs
def sPairFate : List D → D → Prop := fun ds d => ∃ (x : D) (rs : List Rec) (gap : Int), ds = [x, .int gap] ∧ LT x (rcD rs) ∧ d = .int (fate gap rs)
theorem c_pair_fate (T : Tx K mg) : Cal P w K mg base 1 "pair_fate" (spD K sPairFate) [] := by
  refine calD T.fn_pair_fate T.mg_pair_fate sc_pair_fate b_pair_fate (fun hr => d_pair_fate T hr) (pureP_len ?_) ?_
  · rintro ds d ⟨x, rs, gap, rfl, _, rfl⟩; rfl
  rintro ds M R ⟨rfl, d, ⟨x, rs, gap, rfl, hx, rfl⟩, rfl⟩
  unfold t_pair_fate
  walk_at "ev"
  obtain ⟨l, fz⟩ := hx.frz
  refine st_for (is := is2 2 3) (itr_seq ?_)
  walk_at "ev"
  refine ⟨l, _, fz, fun i ρ' M' => fate gap (rs.drop i) = fate gap rs ∧ ∃ a b, ρ' = [some x, some (.int gap), a, b], ⟨rfl, _, _, rfl⟩, ?_, ?_⟩
  · rintro i d ρ' M' hd ⟨hf, a, b, rfl⟩
    obtain ⟨hi, rfl⟩ := map_get (Kd.last, (0 : Int)) hd
    rw [drop_getD (Kd.last, (0 : Int)) hi] at hf
    generalize rs.getD i (Kd.last, 0) = r at *
    obtain ⟨k, q⟩ := r
    rw [show fate gap ((k, q) :: rs.drop (i + 1)) = if gap < q then (if k = .last then 1 else 0) else fate gap (rs.drop (i + 1)) from rfl] at hf
    show TgR _ _ K (.tup [.str k.str, .int q]) _ _
    walk_at "ev"
    refine itD (fun h => ?_) (fun h => ?_)
    · walk_at "ev"
      refine o2_eqK k .last rfl rfl ?_
      walk_at "ev"
      rw [if_pos h] at hf
      show D.int _ = D.int _
      rw [← hf]
      by_cases hk : k = .last
      · rw [if_pos hk, if_pos (decide_eq_true hk)]
      · rw [if_neg hk, if_neg (by rw [decide_eq_true_eq]; exact hk)]
    · walk_at "ev"
      rw [if_neg h] at hf
      exact ⟨hf, _, _, rfl⟩
  · rintro ρ' M' ⟨hf, a, b, rfl⟩
    rw [List.length_map, List.drop_length] at hf
    walk_at "ev"
    show D.int _ = D.int _
    rw [← hf]; rfl
def pgapF (a b : List Rec) : List Rec → Option Int
  | [] => none
  | r :: rs => if 1 < r.2 ∧ fate (r.2 - 1) a ≠ fate (r.2 - 1) b then some (r.2 - 1) else pgapF a b rs
def pgap (a b : List Rec) : Option Int := pgapF a b (a ++ b)
def oD : Option Int → D
  | none => .non
  | some i => .int i
def sPartingGap : List D → D → Prop := fun ds d => ∃ (a b : List Rec), ds = [.tup (rcD a), .tup (rcD b)] ∧ a.length ≤ 1000 ∧ b.length ≤ 1000 ∧ d = oD (pgap a b)
theorem c_parting_gap (T : Tx K mg) : Cal P w K mg base 2 "parting_gap" (spD K sPartingGap) [] := by
  refine calD T.fn_parting_gap T.mg_parting_gap sc_parting_gap b_parting_gap (fun hr => d_parting_gap T hr) (pureP_len ?_) ?_
  · rintro ds d ⟨a, b, rfl, _, _, rfl⟩; rfl
  rintro ds M R ⟨rfl, d, ⟨u, v, rfl, hu, hv, rfl⟩, rfl⟩
  unfold t_parting_gap
  walk_at "ev"
  refine st_for (is := is2 2 3) (itr_seq ?_)
  walk_at "ev"
  refine o2_addT (by rw [List.length_map, List.length_map]; omega) ?_
  rw [show rcD u ++ rcD v = rcD (u ++ v) from List.map_append.symm]
  refine ⟨_, _, .tup _, fun i ρ' M' => pgapF u v ((u ++ v).drop i) = pgap u v ∧ ∃ a b, ρ' = [some (.tup (rcD u)), some (.tup (rcD v)), a, b], ⟨rfl, _, _, rfl⟩, ?_, ?_⟩
  · rintro i d ρ' M' hd ⟨hf, a, b, rfl⟩
    obtain ⟨hi, rfl⟩ := map_get (Kd.last, (0 : Int)) hd
    rw [drop_getD (Kd.last, (0 : Int)) hi] at hf
    generalize (u ++ v).getD i (Kd.last, 0) = r at *
    obtain ⟨k, q⟩ := r
    rw [show pgapF u v ((k, q) :: (u ++ v).drop (i + 1)) = if 1 < q ∧ fate (q - 1) u ≠ fate (q - 1) v then some (q - 1) else pgapF u v ((u ++ v).drop (i + 1)) from rfl] at hf
    show TgR _ _ K (.tup [.str k.str, .int q]) _ _
    walk_at "ev"
    refine itD (fun h => ?_) (fun h => ?_)
    · walk_at "ev"
      refine evr_call (c_pair_fate T) (by decide) ?_
      walk_at "ev"
      refine ⟨_, ⟨_, u, q - 1, rfl, .tup _, rfl⟩, ?_⟩
      refine evr_call (c_pair_fate T) (by decide) ?_
      walk_at "ev"
      refine ⟨_, ⟨_, v, q - 1, rfl, .tup _, rfl⟩, ?_⟩
      walk_at "ev"
      refine itnD (fun h1 => ?_) (fun h1 => ?_)
      · walk_at "ev"
        rw [if_pos ⟨h, h1⟩] at hf
        show D.int _ = oD _
        rw [← hf]; rfl
      · walk_at "ev"
        rw [if_neg (fun z => z.2 h1)] at hf
        exact ⟨hf, _, _, rfl⟩
    · walk_at "ev"
      rw [if_neg (fun z => h z.1)] at hf
      exact ⟨hf, _, _, rfl⟩
  · rintro ρ' M' ⟨hf, a, b, rfl⟩
    rw [List.length_map, List.drop_length] at hf
    walk_at "ev"
    show D.non = oD _
    rw [← hf]; rfl
end

/-! #### W11 -/
section
variable {P : Program} {w : World} {K : PySem.W.Frag} {mg : Str → Option Value} {base : Heap}
/-- some train -/
def IsTr (K : PySem.W.Frag) (d : D) : Prop := ∃ t : Tr, d = trD K t
theorem pos1 {a : Int} (h : 1 ≤ a) : Pos1 [a] := fun g hg => by rw [List.mem_singleton.mp hg]; exact h
theorem pos2 {a b : Int} (h : 1 ≤ a) (h2 : 1 ≤ b) : Pos1 [a, b] := fun g hg => by
  rcases List.mem_cons.mp hg with rfl | hg
  · exact h
  · rw [List.mem_singleton.mp hg]; exact h2
theorem pos0 : Pos1 [] := fun g hg => nomatch hg
theorem toNat_nat {i : Int} (h : 0 ≤ i) : D.int i = nat i.toNat := by show D.int i = D.int _; rw [Int.toNat_of_nonneg h]
def sKindsParted (K : PySem.W.Frag) : List D → (D → Prop) → Prop := fun ds Q => ∃ q far : Int, ds = [.int q, .int far] ∧ 2 ≤ q ∧ q ≤ 2 ^ 40 ∧ 0 ≤ far ∧ far ≤ 2 ^ 50 ∧ Q = IsTr K
theorem ru_le {n p : Int} (hn : 0 ≤ n) (hp : 0 < p) : ru n p ≤ n := by
  unfold ru
  have h2 : (-n) / p ≥ -n := by
    refine Int.le_ediv_of_mul_le hp ?_
    have : n * 1 ≤ n * p := Int.mul_le_mul_of_nonneg_left (by omega) hn
    rw [Int.neg_mul]; omega
  omega
theorem c_kinds_parted (T : Tx K mg) : Cal P w K mg base 5 "kinds_parted" (spE K (sKindsParted K)) [] := by
  refine calD T.fn_kinds_parted T.mg_kinds_parted sc_kinds_parted b_kinds_parted (fun hr => d_kinds_parted T hr) (pureE_len ?_) ?_
  · rintro ds d ⟨q, far, rfl, _⟩; rfl
  rintro ds M R ⟨rfl, d, ⟨q, far, rfl, h1, h2, h3, h4, rfl⟩, rfl⟩
  unfold t_kinds_parted
  have hr := ru_nn h3 (show 0 < q - 1 by omega)
  have hr2 := ru_le h3 (show 0 < q - 1 by omega)
  walk_at "ev"
  refine evr_call (c_rounded_up T) (by decide) ?_
  walk_at "ev"
  refine ⟨_, ⟨far, q - 1, rfl, by omega, by omega, rfl⟩, ?_⟩
  refine o2_mulI (.small ⟨by omega, by omega⟩) ?_
  walk_at "ev"
  refine evr_make (k_Train T) (by decide) ?_
  walk_at "ev"
  refine o2_mulI (.small ⟨by omega, by omega⟩) ?_
  walk_at "ev"
  rw [toNat_nat (show 0 ≤ 2 * ru far (q - 1) by omega)]
  refine ⟨_, ⟨⟨0, [], [q - 1], (2 * ru far (q - 1)).toNat, [2 * q - 2]⟩, _, _, _, rfl, .tup _, .tup _, .tup _, ⟨pos0, pos1 (by omega), pos1 (by omega), by show 0 ≤ 1000; omega, by show 1 ≤ 1000; omega, by show 1 ≤ 1000; omega, ?_⟩, rfl⟩, _, rfl⟩
  simp only [List.sum_cons, List.sum_nil]; omega
def sLessParted (K : PySem.W.Frag) : List D → (D → Prop) → Prop := fun ds Q => ∃ (r s : Rec) (rs : List Rec), ds = [Enc.en r, .tup (rcD (s :: rs))] ∧ rs.length ≤ 1000 ∧ 2 ≤ r.2 ∧ r.2 ≤ 2 ^ 40 ∧ (∀ x ∈ s :: rs, 2 ≤ x.2 ∧ x.2 ≤ 2 ^ 40) ∧ (s.1 = .last ∨ s.1 = .first) ∧ Q = IsTr K
theorem grq_bd {rs : List Rec} {B : Int} (h : ∀ x ∈ rs, x.2 ≤ B) (hB : 1 ≤ B) : 1 ≤ grq rs ∧ grq rs ≤ B := by
  obtain ⟨g1, g2⟩ := grq_spec rs 1
  refine ⟨g2 1 (List.mem_cons_self ..), ?_⟩
  show grq rs ≤ B
  rcases List.mem_cons.mp g1 with e | g1
  · unfold grq; rw [e]; exact hB
  · obtain ⟨x, hx, e⟩ := List.mem_map.mp g1
    unfold grq; rw [← e]; exact h x hx
theorem c_less_parted (T : Tx K mg) : Cal P w K mg base 5 "less_parted" (spE K (sLessParted K)) [] := by
  refine calD T.fn_less_parted T.mg_less_parted sc_less_parted b_less_parted (fun hr => d_less_parted T hr) (pureE_len ?_) ?_
  · rintro ds d ⟨q, far, rs, rfl, _⟩; rfl
  rintro ds M R ⟨rfl, d, ⟨⟨kr, below⟩, ⟨ks, above⟩, rs, rfl, hl, b1, b2, hs, hk, rfl⟩, rfl⟩
  have b1 : 2 ≤ below := b1
  have b2 : below ≤ 2 ^ 40 := b2
  obtain ⟨a1, a2⟩ := hs _ (List.mem_cons_self ..)
  have a1 : 2 ≤ above := a1
  have a2 : above ≤ 2 ^ 40 := a2
  unfold t_less_parted
  obtain ⟨g1, g2⟩ := grq_bd (B := 2 ^ 40) (fun x hx => (hs x hx).2) (by decide)
  walk_at "ev"
  refine st_asg (is := [2] ++ ((is2 3 4) ++ [])) ?_
  walk_at "ev"
  refine o2_ix (.tup _) (d := .int below) rfl ?_
  walk_at "ev"
  refine o2_ix (.tup _) (d := .tup [.str ks.str, .int above]) (atI_nat (k := 0) rfl) ?_
  walk_at "ev"
  refine evr_call (c_greatest_quiet T) (by decide) ?_
  walk_at "ev"
  refine ⟨_, ⟨_, _, rfl, .tup _, by rw [List.length_cons]; omega, rfl⟩, ?_⟩
  generalize grq ((ks, above) :: rs) = g at *
  refine o2_mulI (.small ⟨by omega, by omega⟩) ?_
  walk_at "ev"
  have hru := ru_nn (show 0 ≤ 8 * g by omega) (show 0 < below + above - 2 by omega)
  walk_at "ev"
  refine o2_eqK ks .last rfl rfl ?_
  walk_at "ev"
  refine itD (fun h => ?_) (fun h => ?_)
  · walk_at "ev"
    refine evr_make (k_Train T) (by decide) ?_
    walk_at "ev"
    refine evr_call (c_rounded_up T) (by decide) ?_
    walk_at "ev"
    refine ⟨_, ⟨8 * g, below + above - 2, rfl, by omega, by omega, rfl⟩, ?_⟩
    walk_at "ev"
    rw [toNat_nat hru]
    refine ⟨_, ⟨⟨0, [below + above - 2], [above - 1, below - 1], (ru (8 * g) (below + above - 2)).toNat, []⟩, _, _, _, rfl, .tup _, .tup _, .tup _, ⟨pos1 (by omega), pos2 (by omega) (by omega), pos0, by show 1 ≤ 1000; omega, by show 2 ≤ 1000; omega, by show 0 ≤ 1000; omega, ?_⟩, rfl⟩, _, rfl⟩
    simp only [List.sum_cons, List.sum_nil]; omega
  walk_at "ev"
  refine o2_eqK ks .first rfl rfl ?_
  walk_at "ev"
  refine itP (hk.resolve_left h) ?_
  walk_at "ev"
  refine evr_make (k_Train T) (by decide) ?_
  walk_at "ev"
  refine evr_call (c_rounded_up T) (by decide) ?_
  walk_at "ev"
  refine ⟨_, ⟨8 * g, below + above - 2, rfl, by omega, by omega, rfl⟩, ?_⟩
  walk_at "ev"
  rw [toNat_nat hru]
  refine ⟨_, ⟨⟨0, [], [below - 1, above - 1], (ru (8 * g) (below + above - 2)).toNat, [below + above - 2]⟩, _, _, _, rfl, .tup _, .tup _, .tup _, ⟨pos0, pos2 (by omega) (by omega), pos1 (by omega), by show 0 ≤ 1000; omega, by show 2 ≤ 1000; omega, by show 1 ≤ 1000; omega, ?_⟩, rfl⟩, _, rfl⟩
  simp only [List.sum_cons, List.sum_nil]; omega
theorem o2_notInR {M : Mem} {R : D → Mem → Prop} {x y : D} (r : Rec) (rs : List Rec) (hx : x = Enc.en r) (hy : y = .tup (rcD rs)) (k : R (.bl (!decide (r ∈ rs))) M) : O2 K (rNotInX K) x y M R :=
  o2_notInTu r rs hx hy (by
    have e : ∀ (i1 i2 : Decidable (r ∈ rs)), @decide (r ∈ rs) i1 = @decide (r ∈ rs) i2 := fun i1 i2 => by cases i1 <;> cases i2 <;> first | rfl | contradiction
    rw [e _ _]; exact k)
/-! ### records parted -/
def unlike (a b : List Rec) : List Rec := (a ++ b).filter fun r => !decide (r ∈ a) || !decide (r ∈ b)
def aboveOf (a b : List Rec) : List Rec := a.filter fun r => decide (grq (unlike a b) < r.2)
def kindsOf (a b : List Rec) : List Rec := (unlike a b).filter fun r => decide (r.2 = grq (unlike a b))
/-- what records_parted leans on -/
def PartOk (a b : List Rec) : Prop := pgap a b = none → 2 ≤ grq (unlike a b) ∧ kindsOf a b ≠ [] ∧ (¬ 1 < (kindsOf a b).length → aboveOf a b ≠ [])
def RecB (a : List Rec) : Prop := a.length ≤ 1000 ∧ ∀ r ∈ a, 2 ≤ r.2 ∧ r.2 ≤ 2 ^ 40 ∧ (r.1 = .last ∨ r.1 = .first)
def sRecordsParted (K : PySem.W.Frag) : List D → (D → Prop) → Prop := fun ds Q => ∃ (a b : List Rec), ds = [.tup (rcD a), .tup (rcD b)] ∧ RecB a ∧ RecB b ∧ PartOk a b ∧ Q = IsTr K
theorem pgapF_pos (a b : List Rec) : ∀ rs : List Rec, (∀ r ∈ rs, r.2 ≤ 2 ^ 40) → ∀ g, pgapF a b rs = some g → 1 ≤ g ∧ g ≤ 2 ^ 40
  | [], _, g, h => nomatch h
  | r :: rs, hb, g, h => by
    rw [show pgapF a b (r :: rs) = if 1 < r.2 ∧ fate (r.2 - 1) a ≠ fate (r.2 - 1) b then some (r.2 - 1) else pgapF a b rs from rfl] at h
    split at h
    · have := Option.some.inj h
      have := hb r (List.mem_cons_self ..)
      omega
    · exact pgapF_pos a b rs (fun r hr => hb r (List.mem_cons_of_mem _ hr)) g h
theorem c_records_parted (T : Tx K mg) : Cal P w K mg base 6 "records_parted" (spE K (sRecordsParted K)) [] := by
  refine calD T.fn_records_parted T.mg_records_parted sc_records_parted b_records_parted (fun hr => d_records_parted T hr) (pureE_len ?_) ?_
  · rintro ds d ⟨q, far, rfl, _⟩; rfl
  rintro ds M R ⟨rfl, d, ⟨a, b, rfl, ⟨la, ba⟩, ⟨lb, bb⟩, hp, rfl⟩, rfl⟩
  unfold t_records_parted
  have hab : ∀ r ∈ a ++ b, 2 ≤ r.2 ∧ r.2 ≤ 2 ^ 40 ∧ (r.1 = .last ∨ r.1 = .first) := fun r hr => (List.mem_append.mp hr).elim (ba r) (bb r)
  walk_at "ev"
  refine evr_call (c_parting_gap T) (by decide) ?_
  walk_at "ev"
  refine ⟨_, ⟨a, b, rfl, la, lb, rfl⟩, ?_⟩
  walk_at "ev"
  cases hg : pgap a b with
  | some g =>
    obtain ⟨g1, g2⟩ := pgapF_pos a b (a ++ b) (fun r hr => (hab r hr).2.1) g hg
    refine o2_notN (x := .int g) ?_ trivial
    walk_at "ev"
    refine evr_make (k_Train T) (by decide) ?_
    walk_at "ev"
    refine ⟨_, ⟨⟨0, [g], [], 0, []⟩, _, _, _, rfl, .tup _, .tup _, .tup _, ⟨pos1 g1, pos0, pos0, by show 1 ≤ 1000; omega, by show 0 ≤ 1000; omega, by show 0 ≤ 1000; omega, by show (0 : Int) < 2 ^ 60; decide⟩, rfl⟩, _, rfl⟩
  | none =>
    obtain ⟨h1, h2, h3⟩ := hp hg
    refine o2_notN (x := .non) ?_ trivial
    walk_at "ev"
    refine evr_lcf (α := Rec) (is := [7]) (by decide) (itr_seq ?_)
    walk_at "ev"
    refine o2_addT (by rw [List.length_map, List.length_map]; omega) ?_
    rw [show rcD a ++ rcD b = rcD (a ++ b) from List.map_append.symm]
    refine ⟨_, _, .tup _, a ++ b, Enc.en, Enc.en, fun r => !decide (r ∈ a) || !decide (r ∈ b), rfl, by rw [List.length_append]; omega, ?_, ?_⟩
    · intro r hr
      refine tg_name ?_
      walk_at "ev"
      refine o2_notInR r a rfl rfl ?_
      walk_at "ev"
      refine itnD (fun h => ?_) (fun h => ?_)
      · refine ⟨rfl, by dsimp only; rw [decide_eq_false h]; rfl, fun _ => ?_⟩
        walk_at "ev"
        exact ⟨rfl, rfl⟩
      · walk_at "ev"
        refine o2_notInR r b rfl rfl ?_
        walk_at "ev"
        refine ⟨rfl, by dsimp only; rw [decide_eq_true h]; rfl, fun _ => ?_⟩
        walk_at "ev"
        exact ⟨rfl, rfl⟩
    rw [show (a ++ b).filter (fun r => !decide (r ∈ a) || !decide (r ∈ b)) = unlike a b from rfl]
    have hu : ∀ r ∈ unlike a b, 2 ≤ r.2 ∧ r.2 ≤ 2 ^ 40 ∧ (r.1 = .last ∨ r.1 = .first) := fun r hr => hab r (List.mem_filter.mp hr).1
    have hul : (unlike a b).length ≤ 2000 := Nat.le_trans (List.length_filter_le _ _) (by rw [List.length_append]; omega)
    unfold aboveOf kindsOf at *
    generalize unlike a b = u at *
    have hgb := grq_bd (B := 2 ^ 40) (fun r hr => (hu r hr).2.1) (by decide)
    have hga := grq_bd (B := 2 ^ 40) (fun r hr => (ba r hr).2.1) (by decide)
    walk_at "ev"
    refine evr_call (c_greatest_quiet T) (by decide) ?_
    walk_at "ev"
    refine ⟨_, ⟨_, u, rfl, .lst _, by omega, rfl⟩, ?_⟩
    generalize grq u = g at *
    walk_at "ev"
    refine evr_lcf (α := Rec) (is := [7]) (by decide) (itr_seq ?_)
    walk_at "ev"
    refine ⟨_, _, .tup _, a, Enc.en, Enc.en, fun r => decide (g < r.2), rfl, by omega, ?_, ?_⟩
    · intro r hr
      refine tg_name ?_
      walk_at "ev"
      refine o2_ix (.tup _) (d := .int r.2) rfl ?_
      walk_at "ev"
      refine ⟨rfl, rfl, fun _ => ?_⟩
      walk_at "ev"
      exact ⟨rfl, rfl⟩
    refine ⟨_, _, .lst _, (fun e => nomatch e), ?_⟩
    have hav : ∀ r ∈ a.filter (fun r => decide (g < r.2)), r ∈ a := fun r hr => (List.mem_filter.mp hr).1
    have hal : (a.filter (fun r => decide (g < r.2))).length ≤ 1000 := Nat.le_trans (List.length_filter_le _ _) la
    generalize a.filter (fun r => decide (g < r.2)) = av at *
    walk_at "ev"
    refine evr_lcf (α := Rec) (is := [7]) (by decide) (itr_seq ?_)
    walk_at "ev"
    refine ⟨_, _, .lst _, u, Enc.en, Enc.en, fun r => decide (r.2 = g), rfl, by omega, ?_, ?_⟩
    · intro r hr
      refine tg_name ?_
      walk_at "ev"
      refine o2_ix (.tup _) (d := .int r.2) rfl ?_
      walk_at "ev"
      refine ⟨rfl, rfl, fun _ => ?_⟩
      walk_at "ev"
      exact ⟨rfl, rfl⟩
    have hku : ∀ r ∈ u.filter (fun r => decide (r.2 = g)), r ∈ u := fun r hr => (List.mem_filter.mp hr).1
    generalize u.filter (fun r => decide (r.2 = g)) = ks at *
    walk_at "ev"
    rw [List.length_map]
    refine itD (fun h => ?_) (fun h => ?_)
    · walk_at "ev"
      refine evr_callE (c_kinds_parted T) (by decide) ?_
      walk_at "ev"
      refine evr_call (c_greatest_quiet T) (by decide) ?_
      walk_at "ev"
      refine ⟨_, ⟨_, a, rfl, .tup _, by omega, rfl⟩, ?_⟩
      refine o2_mulI (.small ⟨by omega, by omega⟩) ?_
      walk_at "ev"
      exact ⟨_, ⟨g, 8 * grq a, rfl, h1, hgb.2, by omega, by omega, rfl⟩, fun d hd => hd⟩
    · walk_at "ev"
      cases ks with
      | nil => exact absurd rfl h2
      | cons r ks =>
        cases av with
        | nil => exact absurd rfl (h3 (by omega))
        | cons s av =>
          have hr := hu r (hku r (List.mem_cons_self ..))
          refine evr_callE (c_less_parted T) (by decide) ?_
          walk_at "ev"
          refine o2_ixF (Kd.last, (0 : Int)) (.lst _) 0 rfl (Nat.succ_pos _) ?_
          walk_at "ev"
          exact ⟨_, ⟨r, s, av, rfl, by rw [List.length_cons] at hal; omega, hr.1, hr.2.1, fun x hx => ⟨(ba x (hav x hx)).1, (ba x (hav x hx)).2.1⟩, (ba s (hav s (List.mem_cons_self ..))).2.2, rfl⟩, fun d hd => hd⟩
def sParting (K : PySem.W.Frag) : List D → (D → Prop) → Prop := fun ds Q => ∃ (m n : List Mb), ds = [rowD K m, rowD K n] ∧ NoL m ∧ NoL n ∧ m.length ≤ 1000 ∧ n.length ≤ 1000 ∧ RecB (recsOf m) ∧ RecB (recsOf n) ∧ (recsOf m ≠ recsOf n → PartOk (recsOf m) (recsOf n)) ∧ Q = fun d => if late m = late n ∧ recsOf m = recsOf n then d = .non else IsTr K d
theorem c_parting (T : Tx K mg) : Cal P w K mg base 7 "parting" (spE K (sParting K)) [] := by
  refine calD T.fn_parting T.mg_parting sc_parting b_parting (fun hr => d_parting T hr) (pureE_len ?_) ?_
  · rintro ds d ⟨q, far, rfl, _⟩; rfl
  rintro ds M R ⟨rfl, d, ⟨m, n, rfl, nm, nn, lm, ln, rm, rn, hp, rfl⟩, rfl⟩
  unfold t_parting
  walk_at "ev"
  refine ev_meth ?_
  walk_at "ev"
  refine ⟨_, _, 2, _, .ins _ _, rfl, m_delays T, by decide, ?_⟩
  walk_at "ev"
  refine ⟨_, ⟨m, rfl, nm, by omega, rfl⟩, ?_⟩
  refine ev_meth ?_
  walk_at "ev"
  refine ⟨_, _, 2, _, .ins _ _, rfl, m_delays T, by decide, ?_⟩
  walk_at "ev"
  refine ⟨_, ⟨n, rfl, nn, by omega, rfl⟩, ?_⟩
  walk_at "ev"
  refine itnD (fun h => ?_) (fun h => ?_)
  · walk_at "ev"
    refine evr_make (k_Train T) (by decide) ?_
    walk_at "ev"
    refine ⟨_, ⟨⟨0, [], [], 0, []⟩, _, _, _, rfl, .tup _, .tup _, .tup _, ⟨pos0, pos0, pos0, by decide, by decide, by decide, by decide⟩, rfl⟩, ?_⟩
    show if _ then _ else _
    rw [if_neg (fun z => h z.1)]
    exact ⟨_, rfl⟩
  walk_at "ev"
  refine evr_call (c_records_of T) (by decide) ?_
  walk_at "ev"
  refine ⟨_, ⟨m, rfl, nm, by omega, rfl⟩, ?_⟩
  walk_at "ev"
  refine evr_call (c_records_of T) (by decide) ?_
  walk_at "ev"
  refine ⟨_, ⟨n, rfl, nn, by omega, rfl⟩, ?_⟩
  walk_at "ev"
  walk_at "ev"
  refine o2_eqE (⟨recsOf m⟩ : Tu Rec) ⟨recsOf n⟩ rfl rfl ?_
  walk_at "ev"
  refine itD (fun h1 => ?_) (fun h1 => ?_)
  · have h1 : recsOf m = recsOf n := congrArg Tu.l h1
    walk_at "ev"
    show if _ then _ else _
    rw [if_pos ⟨h, h1⟩]
  · have h1 : recsOf m ≠ recsOf n := fun e => h1 (congrArg Tu.mk e)
    walk_at "ev"
    refine evr_callE (c_records_parted T) (by decide) ?_
    walk_at "ev"
    refine ⟨_, ⟨_, _, rfl, rm, rn, hp h1, rfl⟩, fun d hd => ?_⟩
    show if _ then _ else _
    rw [if_neg (fun z => h1 z.2)]
    exact hd
end

/-! #### W12 -/
section
variable {P : Program} {w : World} {K : PySem.W.Frag} {mg : Str → Option Value} {base : Heap}
def canTell (ms : List Mb) (ts : List Int) : Bool := (List.range (ts.length - 1)).all fun i => decide (grq (recsOf ms) ≤ ts.getD (i + 1) 0 - ts.getD i 0)
def sCanTell (K : PySem.W.Frag) : List D → D → Prop := fun ds d => ∃ (ms : List Mb) (ts : List Int), ds = [rowD K ms, .lst (inD ts)] ∧ NoL ms ∧ ms.length ≤ 90000 ∧ Up ts ∧ ts.length ≤ 90000 ∧ d = .bl (canTell ms ts)
theorem c_can_tell (T : Tx K mg) : Cal P w K mg base 4 "can_tell" (spD K (sCanTell K)) [] := by
  refine calD T.fn_can_tell T.mg_can_tell sc_can_tell b_can_tell (fun hr => d_can_tell T hr) (pureP_len ?_) ?_
  · rintro ds d ⟨ms, ts, rfl, _⟩; rfl
  rintro ds M R ⟨rfl, d, ⟨ms, ts, rfl, hl, hm, hu, hn, rfl⟩, rfl⟩
  unfold t_can_tell
  have hrl := recs_len ms
  unfold canTell
  walk_at "ev"
  refine evr_call (c_check_stream T) (by decide) ?_
  walk_at "ev"
  refine ⟨_, ⟨ts, rfl, hu, rfl⟩, ?_⟩
  walk_at "ev"
  refine evr_lcm (α := Rec) (is := is2 3 4) (by decide) (itr_seq (evr_call (c_records_of T) (by decide) ?_))
  walk_at "ev"
  refine ⟨_, ⟨ms, rfl, hl, hm, rfl⟩, ?_⟩
  generalize recsOf ms = rs at *
  refine ⟨_, _, .tup _, rs, Enc.en, fun r => .int r.2, rfl, by omega, ?_, ?_⟩
  · rintro ⟨k, q⟩ hr
    show TgR _ _ K (.tup [.str k.str, .int q]) _ _
    walk_at "ev"
    exact ⟨rfl, rfl⟩
  refine o2_addL (.lst _) (.lst _) (by rw [List.length_map]; show 1 + rs.length ≤ 100000; omega) ?_
  walk_at "ev"
  refine ol_max (ns := 1 :: rs.map fun r => r.2) (by rw [List.map_cons, List.map_map]; exact .lst _) (Nat.succ_pos _) fun m h1 h2 => ?_
  obtain ⟨g1, g2⟩ := grq_spec rs 1
  have hm' : m = grq rs := Int.le_antisymm (g2 m h1) (h2 _ g1)
  subst hm'
  walk_at "ev"
  refine evr_lcm (α := Nat) (is := [5]) (by decide) (itr_rng1 ?_)
  walk_at "ev"
  rw [List.length_map]
  refine ⟨⟨by omega, by omega⟩, List.range (ts.length - 1), nat, fun i => .bl (decide (grq rs ≤ ts.getD (i + 1) 0 - ts.getD i 0)), ?_, by rw [List.length_range]; omega, ?_, ?_⟩
  · rw [show ((ts.length : Int) - 1).toNat = ts.length - 1 by omega, rgD_map]
  · intro i hi
    have hi := List.mem_range.mp hi
    walk_at "ev"
    refine o2_ixI (i + 1) (by omega) (by omega) ?_
    walk_at "ev"
    refine o2_ixI i rfl (by omega) ?_
    walk_at "ev"
    exact ⟨rfl, rfl⟩
  · walk_at "ev"
    refine ol_all (bs := (List.range (ts.length - 1)).map fun i => decide (grq rs ≤ ts.getD (i + 1) 0 - ts.getD i 0)) (by rw [List.map_map]; exact .lst _) ?_
    show D.bl _ = D.bl _
    rw [List.all_map]; rfl
/-! ### big numbers -/
def Sm (xs : List Int) : Prop := ∀ x ∈ xs, x.natAbs < 2 ^ 20000
theorem mulOk {x y : Int} {A B : Nat} (hx : x.natAbs < 2 ^ A) (hy : y.natAbs < 2 ^ B) (h : A + B ≤ 900000) : CMulX x y := by
  refine .inr ?_
  have lg : ∀ (n a : Nat), n < 2 ^ a → n.log2 ≤ a := fun n a h => by
    by_cases h0 : n = 0
    · rw [h0]; exact Nat.zero_le _
    · exact Nat.le_of_lt ((Nat.log2_lt h0).mpr h)
  have h1 := lg _ _ hx
  have h2 := lg _ _ hy
  unfold CMulW
  omega
theorem Sm.mul {xs ys : List Int} (h1 : Sm xs) (h2 : Sm ys) {i j : Nat} (hi : i < xs.length) (hj : j < ys.length) : CMulX (xs.getD i 0) (ys.getD j 0) := mulOk (h1 _ (getD_mem 0 hi)) (h2 _ (getD_mem 0 hj)) (by decide)
def foldM (one other : List Int) (size : Nat) : List Int := (List.range (size + 1)).map fun n => ((List.range (n + 1)).map fun p => one.getD p 0 * other.getD (n - p) 0).sum
def sFolded : List D → D → Prop := fun ds d => ∃ (one other : List Int) (size : Nat), ds = [.lst (inD one), .lst (inD other), nat size] ∧ size ≤ 1000 ∧ one.length = size + 1 ∧ other.length = size + 1 ∧ Sm one ∧ Sm other ∧ d = .lst (inD (foldM one other size))
theorem c_folded (T : Tx K mg) : Cal P w K mg base 1 "folded" (spD K sFolded) [] := by
  refine calD T.fn_folded T.mg_folded sc_folded b_folded (fun hr => d_folded T hr) (pureP_len ?_) ?_
  · rintro ds d ⟨a, b, c, rfl, _⟩; rfl
  rintro ds M R ⟨rfl, d, ⟨one, other, size, rfl, hs, l1, l2, s1, s2, rfl⟩, rfl⟩
  unfold t_folded
  walk_at "ev"
  refine evr_lcm (α := Nat) (is := [3]) (by decide) (itr_rng1 ?_)
  walk_at "ev"
  refine ⟨⟨by omega, by omega⟩, List.range (size + 1), nat, fun n => .int ((List.range (n + 1)).map fun p => one.getD p 0 * other.getD (n - p) 0).sum, by rw [show ((size : Int) + 1).toNat = size + 1 by omega, rgD_map], by rw [List.length_range]; omega, ?_, ?_⟩
  · intro n hn
    have hn := List.mem_range.mp hn
    walk_at "ev"
    refine evr_lcm (α := Nat) (is := [4]) (by decide) (itr_rng1 ?_)
    walk_at "ev"
    refine ⟨⟨by omega, by omega⟩, List.range (n + 1), nat, fun p => .int (one.getD p 0 * other.getD (n - p) 0), by rw [show ((n : Int) + 1).toNat = n + 1 by omega, rgD_map], by rw [List.length_range]; omega, ?_, ?_⟩
    · intro p hp
      have hp := List.mem_range.mp hp
      walk_at "ev"
      refine o2_ixI p rfl (by omega) ?_
      walk_at "ev"
      refine o2_ixI (n - p) (by omega) (by omega) ?_
      refine o2_mulI (s1.mul s2 (by omega) (by omega)) ?_
      exact ⟨rfl, rfl⟩
    · walk_at "ev"
      refine ol_sum (ns := (List.range (n + 1)).map fun p => one.getD p 0 * other.getD (n - p) 0) (by rw [List.map_map]; exact .lst _) ?_
      exact ⟨rfl, rfl⟩
  · show D.lst _ = D.lst _
    unfold foldM
    rw [inD, List.map_map]; rfl
structure Wy where
  steps : List Int
  heads : List Int
  tails : List Int
def wyF (size : Nat) (x : Wy) : List (Str × D) := [("size", nat size), ("steps", .lst (inD x.steps)), ("heads", .lst (inD x.heads)), ("tails", .lst (inD x.tails))]
def wy0 (size : Nat) : Wy := ⟨0 :: List.replicate size 1, List.replicate (size + 1) 1, List.replicate (size + 1) 1⟩
def pWays : List D → List (Str × D) → Prop := fun ds fs => ∃ size : Nat, ds = [nat size] ∧ size ≤ 1000 ∧ fs = wyF size (wy0 size)
theorem rep_flat (n : Nat) (d : D) : (List.replicate n [d]).flatten = List.replicate n d := by
  induction n with
  | zero => rfl
  | succ n ih => rw [List.replicate_succ, List.flatten_cons, ih, List.replicate_succ]; rfl
theorem k_Ways (T : Tx K mg) : Mak P w K mg base 1 "Ways" (He.ga K "Ways") (spI K (He.ga K "Ways") pWays) [] := by
  refine makD T.fn_Ways_D_initD_ T.mk_Ways T.mg_Ways sc_WaysD__initD_ b_WaysD__initD_ (fun hr => d_WaysD__initD_ T hr) (initP_len ?_) ?_
  · rintro ds fs ⟨a, rfl, _⟩; rfl
  rintro ds M R ⟨y, ds', fs, rfl, rfl, ⟨size, rfl, hs, rfl⟩, rfl⟩
  unfold t_WaysD__initD_
  walk_at "ev"
  refine o2_mulL (by omega) (by show 1 * _ ≤ _; omega) (by omega) ?_
  rw [Int.toNat_natCast, rep_flat]
  refine o2_addL (.lst _) (.lst _) (by rw [List.length_replicate]; show 1 + size ≤ 100000; omega) ?_
  walk_at "ev"
  refine o2_mulL (by omega) (by show 1 * _ ≤ _; omega) (by omega) ?_
  rw [show ((size : Int) + 1).toNat = size + 1 by omega, rep_flat]
  walk_at "ev"
  refine o2_mulL (by omega) (by show 1 * _ ≤ _; omega) (by omega) ?_
  rw [show ((size : Int) + 1).toNat = size + 1 by omega, rep_flat]
  walk_at "ev"
  refine ⟨rfl, ?_⟩
  unfold wyF wy0
  simp only [inD, List.map_replicate, List.map_cons]
  rfl
def chL (steps : List Int) (q : Nat) : Nat → List Int
  | 0 => [1]
  | n + 1 => chL steps q n ++ [((List.range (min (n + 1) (q - 1))).map fun i => steps.getD (i + 1) 0 * (chL steps q n).getD (n - i) 0).sum]
theorem chL_len (steps : List Int) (q : Nat) : ∀ n, (chL steps q n).length = n + 1
  | 0 => rfl
  | n + 1 => by
    show (chL steps q n ++ [_]).length = _
    rw [List.length_append, chL_len steps q n]; rfl
theorem chL_sub (steps : List Int) (q : Nat) : ∀ {m n : Nat}, n ≤ m → ∀ x ∈ chL steps q n, x ∈ chL steps q m
  | 0, n, h, x, hx => by rw [Nat.le_zero.mp h] at hx; exact hx
  | m + 1, n, h, x, hx => by
    rcases Nat.lt_or_ge n (m + 1) with h1 | h1
    · show x ∈ chL steps q m ++ [_]
      exact List.mem_append_left _ (chL_sub steps q (Nat.le_of_lt_succ h1) x hx)
    · have : n = m + 1 := Nat.le_antisymm h h1
      rw [this] at hx; exact hx
def preChains (K : PySem.W.Frag) : List D → Mem → (D → Mem → Prop) → Prop := fun ds M R => ∃ (a : Addr) (size q : Nat) (x : Wy), ds = [.loc a, nat q] ∧ 1 ≤ q ∧ size ≤ 1000 ∧ x.steps.length = size + 1 ∧ Sm x.steps ∧ Sm (chL x.steps q size) ∧ M = [(a, .ins (He.ga K "Ways") (wyF size x))] ∧
  R = fun d M' => d = .lst (inD (chL x.steps q size)) ∧ M' = [(a, .ins (He.ga K "Ways") (wyF size x))]
theorem m_chains (T : Tx K mg) : Met P w K mg base 1 (He.ga K "Ways") "chains" (spM K (preChains K)) [] := by
  refine metD T.fn_Ways_chains T.cl_Ways T.me_Ways_chains sc_Ways.chains b_Ways.chains (fun hr => d_Ways.chains T hr) ?_ ?_
  · rintro ds M R ⟨a, size, q, x, rfl, _⟩; rfl
  rintro ds M R ⟨a, size, q, x, rfl, hq, hs, hl, s1, s2, rfl, rfl⟩
  unfold t_Ways.chains
  refine st_seq (st_set (evr_lstO ?_))
  walk_at "ev"
  intro p hp
  refine st_seq (st_for (is := [3]) (itr_rng2 ?_))
  walk_at "ev"
  refine ⟨_, _, _, .loc (List.mem_cons_of_mem _ memH), T.cl_Ways, T.no_Ways_size, rfl, ?_⟩
  walk_at "ev"
  refine ⟨⟨by omega, by omega⟩, ⟨by omega, by omega⟩, ?_⟩
  rw [show ((size : Int) + 1 - 1).toNat = size by omega]
  refine ⟨fun i ρ' M' => M' = [(p, .lst (inD (chL x.steps q i))), (a, .ins (He.ga K "Ways") (wyF size x))] ∧ ∃ u v z, ρ' = [some (.loc a), some (nat q), some (.loc p), u, v, z], ⟨rfl, _, _, _, rfl⟩, ?_, ?_⟩
  · rintro i d ρ' M' hd ⟨rfl, u, v, z, rfl⟩
    obtain ⟨hi, rfl⟩ := rgD_get.mp hd
    have hcl := chL_len x.steps q i
    have hcs : Sm (chL x.steps q i) := fun y hy => s2 y (chL_sub x.steps q (Nat.le_of_lt hi) y hy)
    have he : chL x.steps q (i + 1) = chL x.steps q i ++ [((List.range (min (i + 1) (q - 1))).map fun k => x.steps.getD (k + 1) 0 * (chL x.steps q i).getD (i - k) 0).sum] := rfl
    generalize chL x.steps q i = ch at hcl hcs he ⊢
    refine tg_name ?_
    walk_at "ev"
    have hmin : (if (q : Int) - 1 < 1 + (i : Int) then (q : Int) - 1 else 1 + (i : Int)) = ((min (i + 1) (q - 1) : Nat) : Int) := by split <;> omega
    rw [hmin]
    refine evr_lcm (α := Nat) (is := [5]) (by decide) (itr_rng2 ?_)
    walk_at "ev"
    refine ⟨⟨by omega, by omega⟩, ⟨by omega, by omega⟩, List.range (min (i + 1) (q - 1)), fun k => .int (1 + (k : Int)), fun k => .int (x.steps.getD (k + 1) 0 * ch.getD (i - k) 0), ?_, by rw [List.length_range]; omega, ?_, ?_⟩
    · rw [show ((min (i + 1) (q - 1) : Nat) : Int) + 1 - 1 = ((min (i + 1) (q - 1) : Nat) : Int) by omega, Int.toNat_natCast]; rfl
    · intro k hk
      have hk := List.mem_range.mp hk
      refine tg_name ?_
      walk_at "ev"
      refine ⟨_, _, _, .loc (List.mem_cons_of_mem _ memH), T.cl_Ways, T.no_Ways_steps, rfl, ?_⟩
      walk_at "ev"
      refine o2_ixI (k + 1) (by omega) (by omega) ?_
      walk_at "ev"
      refine o2_ixF 0 (.loc memH) (i - k) (by omega) (by omega) ?_
      refine o2_mulI (s1.mul hcs (by omega) (by omega)) ?_
      exact ⟨rfl, rfl⟩
    · walk_at "ev"
      refine ol_sum (ns := (List.range (min (i + 1) (q - 1))).map fun k => x.steps.getD (k + 1) 0 * ch.getD (i - k) 0) (by rw [List.map_map]; exact .lst _) ?_
      walk_at "ev"
      · rw [List.length_map]; omega
      refine ⟨?_, _, _, _, rfl⟩
      rw [he, inD_snoc]
  · rintro ρ' M' ⟨rfl, u, v, z, rfl⟩
    rw [rgD_length]
    refine st_frz (i := 2) rfl (List.Perm.refl _) ?_
    walk_at "ev"
    exact ⟨rfl, rfl⟩
def greatOf (q : Nat) (steps : List Int) : List Int := steps.zipIdx.map fun p => if q ≤ p.2 then p.1 else 0
def addW (size : Nat) (x : Wy) (r : Kd × Nat) : Wy :=
  let ch := chL x.steps r.2 size
  ⟨foldM ch (greatOf r.2 x.steps) size, if r.1 = .last then foldM ch x.heads size else x.heads, if r.1 = .first then foldM ch x.tails size else x.tails⟩
def WyOk (size : Nat) (x : Wy) : Prop := x.steps.length = size + 1 ∧ x.heads.length = size + 1 ∧ x.tails.length = size + 1 ∧ Sm x.steps ∧ Sm x.heads ∧ Sm x.tails
def preAdd (K : PySem.W.Frag) : List D → Mem → (D → Mem → Prop) → Prop := fun ds M R => ∃ (a : Addr) (size : Nat) (r : Kd × Nat) (x : Wy), ds = [.loc a, .str r.1.str, nat r.2] ∧ 1 ≤ r.2 ∧ (r.1 = .last ∨ r.1 = .first) ∧ size ≤ 1000 ∧ WyOk size x ∧ Sm (chL x.steps r.2 size) ∧ M = [(a, .ins (He.ga K "Ways") (wyF size x))] ∧
  R = fun d M' => d = .non ∧ M' = [(a, .ins (He.ga K "Ways") (wyF size (addW size x r)))]
theorem great_len (q : Nat) (steps : List Int) : (greatOf q steps).length = steps.length := by unfold greatOf; rw [List.length_map, List.length_zipIdx]
theorem great_sm {q : Nat} {steps : List Int} (h : Sm steps) : Sm (greatOf q steps) := by
  intro y hy
  obtain ⟨⟨s, i⟩, hp, rfl⟩ := List.mem_map.mp hy
  show (if q ≤ i then s else 0).natAbs < _
  split
  · exact h s (List.fst_mem_of_mem_zipIdx hp)
  · exact Nat.two_pow_pos _
theorem m_add (T : Tx K mg) : Met P w K mg base 2 (He.ga K "Ways") "add" (spM K (preAdd K)) [] := by
  refine metD T.fn_Ways_add T.cl_Ways T.me_Ways_add sc_Ways.add b_Ways.add (fun hr => d_Ways.add T hr) ?_ ?_
  · rintro ds M R ⟨a, size, q, x, rfl, _⟩; rfl
  rintro ds M R ⟨a, size, ⟨k, q⟩, x, rfl, hq, hk, hs, ⟨l1, l2, l3, s1, s2, s3⟩, s4, rfl, rfl⟩
  unfold t_Ways.add
  have hcl := chL_len x.steps q size
  have hadd : addW size x (k, q) = ⟨foldM (chL x.steps q size) (greatOf q x.steps) size, if k = .last then foldM (chL x.steps q size) x.heads size else x.heads, if k = .first then foldM (chL x.steps q size) x.tails size else x.tails⟩ := rfl
  walk_at "ev"
  refine evr_methM ?_
  walk_at "ev"
  refine ⟨_, _, 1, _, .loc memH, rfl, m_chains T, by decide, ?_⟩
  walk_at "ev"
  refine ⟨[(a, .ins (He.ga K "Ways") (wyF size x))], [], _, List.Perm.refl _, ⟨a, size, q, x, rfl, hq, hs, l1, s1, s4, rfl, rfl⟩, ?_⟩
  rintro d M' ⟨rfl, rfl⟩
  generalize chL x.steps q size = ch at *
  walk_at "ev"
  refine o2_eqK k .limit rfl rfl ?_
  walk_at "ev"
  refine itN (by rcases hk with rfl | rfl <;> decide) ?_
  walk_at "ev"
  refine evr_lcm (α := Int × Nat) (is := is2 8 7) (by decide) (itr_enumX ?_)
  walk_at "ev"
  refine ⟨_, _, _, rfl, .lst _, ?_⟩
  rw [enD_map]
  refine ⟨x.steps.zipIdx, fun p => .tup [nat p.2, .int p.1], fun p => .int (if q ≤ p.2 then p.1 else 0), rfl, by rw [List.length_zipIdx]; omega, ?_, ?_⟩
  · rintro ⟨s, i⟩ hp
    walk_at "ev"
    refine itD (fun h => ?_) (fun h => ?_)
    · walk_at "ev"
      refine ⟨rfl, ?_⟩
      show D.int s = D.int (if q ≤ i then s else 0)
      rw [if_pos (by omega)]
    · walk_at "ev"
      refine ⟨rfl, ?_⟩
      show D.int 0 = D.int (if q ≤ i then s else 0)
      rw [if_neg (by omega)]
  rw [show x.steps.zipIdx.map (fun p => D.int (if q ≤ p.2 then p.1 else 0)) = inD (greatOf q x.steps) by unfold greatOf; rw [inD, List.map_map]; rfl]
  walk_at "ev"
  refine evr_call (c_folded T) (by decide) ?_
  walk_at "ev"
  refine ⟨_, ⟨ch, greatOf q x.steps, size, rfl, hs, hcl, (great_len ..).trans l1, s4, great_sm s1, rfl⟩, ?_⟩
  walk_at "ev"
  refine o2_eqK k .last rfl rfl ?_
  walk_at "ev"
  refine itD (fun h => ?_) (fun h => ?_)
  · walk_at "ev"
    refine evr_call (c_folded T) (by decide) ?_
    walk_at "ev"
    refine ⟨_, ⟨ch, x.heads, size, rfl, hs, hcl, l2, s4, s2, rfl⟩, ?_⟩
    walk_at "ev"
    refine o2_inK (ns := [.first, .limit]) rfl rfl ?_
    walk_at "ev"
    refine itN (by rw [h]; show ¬ Kd.last ∈ [Kd.first, Kd.limit]; decide) ?_
    walk_at "ev"
    refine ⟨rfl, ?_⟩
    rw [hadd, if_pos h, if_neg (by rw [h]; decide)]
    rfl
  · have h1 : k = .first := hk.resolve_left h
    walk_at "ev"
    refine o2_inK (ns := [.first, .limit]) rfl rfl ?_
    walk_at "ev"
    refine itP (by rw [h1]; show Kd.first ∈ [Kd.first, Kd.limit]; decide) ?_
    walk_at "ev"
    refine evr_call (c_folded T) (by decide) ?_
    walk_at "ev"
    refine ⟨_, ⟨ch, x.tails, size, rfl, hs, hcl, l3, s4, s3, rfl⟩, ?_⟩
    walk_at "ev"
    refine ⟨rfl, ?_⟩
    rw [hadd, if_neg h, if_pos h1]
    rfl
end

/-! #### W13 -/
section
variable {P : Program} {w : World} {K : PySem.W.Frag} {mg : Str → Option Value} {base : Heap}
def foldW (size : Nat) (rs : List Rec) : Wy := rs.foldl (fun x r => addW size x (r.1, r.2.toNat)) (wy0 size)
theorem foldW_succ {size : Nat} {rs : List Rec} {k : Nat} (h : k < rs.length) : foldW size (rs.take (k + 1)) = addW size (foldW size (rs.take k)) ((rs.getD k (Kd.last, 0)).1, (rs.getD k (Kd.last, 0)).2.toNat) := by
  unfold foldW
  rw [take_succ_getD (Kd.last, (0 : Int)) h, List.foldl_append, List.foldl_cons, List.foldl_nil]
/-- what the fold asks of the tables -/
def FwOk (size : Nat) (rs : List Rec) : Prop := (∀ i, i < rs.length → WyOk size (foldW size (rs.take i)) ∧ Sm (chL (foldW size (rs.take i)).steps (rs.getD i (Kd.last, 0)).2.toNat size)) ∧ WyOk size (foldW size rs)
def prodW (steps ts : List Int) (f0 : Int) (n : Nat) : Int := (List.range n).foldl (fun f i => f * steps.getD (ts.getD (i + 1) 0 - ts.getD i 0).toNat 0) f0
theorem prodW_succ (steps ts : List Int) (f0 : Int) (n : Nat) : prodW steps ts f0 (n + 1) = prodW steps ts f0 n * steps.getD (ts.getD (n + 1) 0 - ts.getD n 0).toNat 0 := by
  unfold prodW; rw [range_snoc, List.foldl_append]; rfl
def cpM (size : Nat) (rs : List Rec) (ts : List Int) (i j : Nat) : Int :=
  prodW (foldW size rs).steps ts ((foldW size rs).heads.getD i 0 * (foldW size rs).tails.getD j 0) (ts.length - 1)
theorem prod_sm {steps ts : List Int} {f0 : Int} (h : Sm steps) (h0 : f0.natAbs < 2 ^ 40000) (hi : ∀ i, i + 1 < ts.length → (ts.getD (i + 1) 0 - ts.getD i 0).toNat < steps.length) : ∀ n, n + 1 ≤ ts.length → (prodW steps ts f0 n).natAbs < 2 ^ (40000 + 20000 * n)
  | 0, _ => h0
  | n + 1, hn => by
    rw [prodW_succ, Int.natAbs_mul, show 40000 + 20000 * (n + 1) = (40000 + 20000 * n) + 20000 by omega, Nat.pow_add]
    exact Nat.mul_lt_mul'' (prod_sm h h0 hi n (by omega)) (h _ (getD_mem 0 (hi n (by omega))))
def sCountPasts (K : PySem.W.Frag) : List D → D → Prop := fun ds d => ∃ (ms : List Mb) (ts : List Int) (b e : Int) (size i j : Nat), ds = [rowD K ms, .lst (inD ts), .int b, .int e] ∧ NoL ms ∧ ms.length ≤ 90000 ∧ Up ts ∧ 0 < ts.length ∧ ts.length ≤ 20 ∧ e - b = (size : Int) ∧ size ≤ 299 ∧
  ts.getD 0 0 - late ms - b = (i : Int) ∧ e - ts.getD (ts.length - 1) 0 + late ms = (j : Int) ∧ i ≤ size ∧ j ≤ size ∧ (∀ r ∈ recsOf ms, 1 ≤ r.2 ∧ (r.1 = .last ∨ r.1 = .first)) ∧ FwOk size (recsOf ms) ∧
  (∀ k, k + 1 < ts.length → (ts.getD (k + 1) 0 - ts.getD k 0).toNat ≤ size) ∧ d = .int (cpM size (recsOf ms) ts i j)
theorem getLast_getD {ts : List Int} (h : 0 < ts.length) : (inD ts).getLast? = some (.int (ts.getD (ts.length - 1) 0)) := by
  rw [List.getLast?_eq_getElem?, List.length_map]
  exact getD_map (f := D.int) (by omega)
theorem c_count_pasts (T : Tx K mg) : Cal P w K mg base 4 "count_pasts" (spD K (sCountPasts K)) [] := by
  refine calD T.fn_count_pasts T.mg_count_pasts sc_count_pasts b_count_pasts (fun hr => d_count_pasts T hr) (pureP_len ?_) ?_
  · rintro ds d ⟨a, b, c, e, _, _, _, rfl, _⟩; rfl
  rintro ds M R ⟨rfl, d, ⟨ms, ts, b, e, size, i, j, rfl, nl, lm, hu, hp, hn, hs, hs2, hi, hj, hil, hjl, hr, ⟨fw, fz⟩, hg, rfl⟩, rfl⟩
  unfold t_count_pasts
  walk_at "ev"
  refine evr_call (c_check_stream T) (by decide) ?_
  walk_at "ev"
  refine ⟨_, ⟨ts, rfl, hu, rfl⟩, ?_⟩
  walk_at "ev"
  refine itN (by omega) ?_
  walk_at "ev"
  rw [List.length_map]
  refine itN (by omega) ?_
  walk_at "ev"
  refine ev_meth ?_
  walk_at "ev"
  refine ⟨_, _, 2, _, .ins _ _, rfl, m_delays T, by decide, ?_⟩
  walk_at "ev"
  refine ⟨_, ⟨ms, rfl, nl, by omega, rfl⟩, ?_⟩
  walk_at "ev"
  refine o2_ixI 0 rfl hp ?_
  walk_at "ev"
  refine itN (by omega) ?_
  walk_at "ev"
  refine o2_ix (.lst _) (atI_last (getLast_getD hp)) ?_
  walk_at "ev"
  refine itN (by omega) ?_
  walk_at "ev"
  refine evr_makeO (k_Ways T) (by decide) ?_
  walk_at "ev"
  rw [hs]
  refine ⟨_, ⟨size, rfl, by omega, rfl⟩, fun y hy => ?_⟩
  walk_at "ev"
  refine st_for (is := is2 6 7) (itr_seq (evr_call (c_records_of T) (by decide) ?_))
  walk_at "ev"
  refine ⟨_, ⟨ms, rfl, nl, lm, rfl⟩, ?_⟩
  unfold cpM
  generalize recsOf ms = rs at *
  refine ⟨_, _, .tup _, fun k ρ' M' => M' = [(y, .ins (He.ga K "Ways") (wyF size (foldW size (rs.take k))))] ∧ ∃ u v x z, ρ' = [some (rowD K ms), some (.lst (inD ts)), some (.int b), some (.int e), some (.int (late ms)), some (.loc y), u, v, x, z], ⟨rfl, _, _, _, _, rfl⟩, ?_, ?_⟩
  · rintro k d ρ' M' hd ⟨rfl, u, v, x, z, rfl⟩
    obtain ⟨hk, rfl⟩ := map_get (Kd.last, (0 : Int)) hd
    have he : foldW size (rs.take (k + 1)) = addW size (foldW size (rs.take k)) ((rs.getD k (Kd.last, 0)).1, (rs.getD k (Kd.last, 0)).2.toNat) := foldW_succ hk
    obtain ⟨ok, sm⟩ := fw k hk
    have hrk := hr _ (getD_mem (Kd.last, (0 : Int)) hk)
    generalize foldW size (rs.take k) = wy at *
    generalize rs.getD k (Kd.last, (0 : Int)) = r at *
    obtain ⟨kd, q⟩ := r
    have hrk : 1 ≤ q ∧ (kd = .last ∨ kd = .first) := hrk
    have hq : q = ((q.toNat : Nat) : Int) := by omega
    show TgR _ _ K (.tup [.str kd.str, .int q]) _ _
    walk_at "ev"
    refine evr_methM ?_
    walk_at "ev"
    refine ⟨_, _, 2, _, .loc memH, rfl, m_add T, by decide, ?_⟩
    walk_at "ev"
    refine ⟨[(y, .ins (He.ga K "Ways") (wyF size wy))], [], _, List.Perm.refl _, ⟨y, size, (kd, q.toNat), wy, by rw [← toNat_nat (by omega : 0 ≤ q)], by show 1 ≤ q.toNat; omega, hrk.2, by omega, ok, sm, rfl, rfl⟩, ?_⟩
    rintro d M' ⟨rfl, rfl⟩
    refine ⟨?_, _, _, _, _, rfl⟩
    rw [he]; rfl
  · rintro ρ' M' ⟨rfl, u, v, x, z, rfl⟩
    rw [List.length_map, List.take_length]
    obtain ⟨l1, l2, l3, s1, s2, s3⟩ := fz
    generalize foldW size rs = wy at *
    have hh : (wy.heads.getD i 0).natAbs < 2 ^ 20000 := s2 _ (getD_mem 0 (by omega))
    have ht : (wy.tails.getD j 0).natAbs < 2 ^ 20000 := s3 _ (getD_mem 0 (by omega))
    have h0 : (wy.heads.getD i 0 * wy.tails.getD j 0).natAbs < 2 ^ 40000 := by
      rw [Int.natAbs_mul, show 40000 = 20000 + 20000 from rfl, Nat.pow_add]
      exact Nat.mul_lt_mul'' hh ht
    walk_at "ev"
    refine o2_ixI 0 rfl hp ?_
    walk_at "ev"
    refine o2_ixI i (by omega) (by omega) ?_
    walk_at "ev"
    refine o2_ix (.lst _) (atI_last (getLast_getD hp)) ?_
    walk_at "ev"
    refine o2_ixI j (by omega) (by omega) ?_
    refine o2_mulI (mulOk hh ht (by decide)) ?_
    walk_at "ev"
    refine st_for (is := [9]) (itr_rng1 ?_)
    walk_at "ev"
    rw [List.length_map]
    refine ⟨⟨by omega, by omega⟩, ?_⟩
    rw [show ((ts.length : Int) - 1).toNat = ts.length - 1 by omega, rgD_map]
    generalize hf0 : wy.heads.getD i 0 * wy.tails.getD j 0 = f0 at *
    have hsm := prod_sm (steps := wy.steps) (ts := ts) s1 h0 (fun k hk => by have := hg k hk; omega)
    refine ⟨fun k ρ' M' => M' = [(y, .ins (He.ga K "Ways") (wyF size wy))] ∧ ∃ u v z, ρ' = [some (rowD K ms), some (.lst (inD ts)), some (.int b), some (.int e), some (.int (late ms)), some (.loc y), u, v, some (.int (prodW wy.steps ts f0 k)), z], ⟨rfl, _, _, _, rfl⟩, ?_, ?_⟩
    · rintro k d ρ' M' hd ⟨rfl, u, v, z, rfl⟩
      obtain ⟨hk, rfl⟩ := map_get 0 hd
      rw [List.length_range] at hk
      have ek : (List.range (ts.length - 1)).getD k 0 = k := by rw [List.getD_eq_getElem?_getD, List.getElem?_range hk]; rfl
      rw [ek]
      have hgk := hg k (by omega)
      have hup := hu k (by omega)
      refine tg_name ?_
      walk_at "ev"
      refine o2_ixI (k + 1) (by omega) (by omega) ?_
      walk_at "ev"
      refine o2_ixI k rfl (by omega) ?_
      walk_at "ev"
      refine o2_ixI (ts.getD (k + 1) 0 - ts.getD k 0).toNat (by omega) (by omega) ?_
      refine o2_mulI (mulOk (hsm k (by omega)) (s1 _ (getD_mem 0 (by omega))) (by omega)) ?_
      rw [← prodW_succ]
      exact ⟨rfl, _, _, _, rfl⟩
    · rintro ρ' M' ⟨rfl, u, v, z, rfl⟩
      rw [List.length_map, List.length_range]
      walk_at "ev"
      rfl
end

/-! #### MA -/
/-! ### counting along a range -/
def cntP (p : Nat → Bool) : Nat → Nat
  | 0 => 0
  | i + 1 => cntP p i + if p i then 1 else 0
theorem cntP_len (p : Nat → Bool) : ∀ i, ((List.range i).filter p).length = cntP p i
  | 0 => rfl
  | i + 1 => by
    rw [range_snoc, List.filter_append, List.length_append, cntP_len p i]
    show _ = cntP p i + _
    by_cases h : p i = true
    · rw [if_pos h, List.filter_cons, if_pos h]; rfl
    · rw [if_neg h, List.filter_cons, if_neg h]; rfl
theorem cntP_mono (p : Nat → Bool) : ∀ {i j : Nat}, i ≤ j → cntP p i ≤ cntP p j
  | i, 0, h => by rw [Nat.le_zero.mp h]; exact Nat.le_refl _
  | i, j + 1, h => by
    rcases Nat.lt_or_ge i (j + 1) with h1 | h1
    · exact Nat.le_trans (cntP_mono p (Nat.le_of_lt_succ h1)) (Nat.le_add_right _ _)
    · rw [Nat.le_antisymm h h1]; exact Nat.le_refl _
theorem cntP_congr {p q : Nat → Bool} : ∀ {i : Nat}, (∀ j, j < i → p j = q j) → cntP p i = cntP q i
  | 0, _ => rfl
  | i + 1, h => by
    show cntP p i + _ = cntP q i + _
    rw [cntP_congr fun j hj => h j (by omega), h i (by omega)]
/-- the filtered range, split -/
theorem fr_split (p : Nat → Bool) {i m : Nat} (h : i ≤ m) : (List.range m).filter p = (List.range i).filter p ++ ((List.range (m - i)).map (i + ·)).filter p := by
  have : List.range m = List.range i ++ (List.range (m - i)).map (i + ·) := by
    conv => lhs; rw [show m = i + (m - i) by omega, List.range_add]
  rw [this, List.filter_append]
theorem fr_ge (p : Nat → Bool) {i m : Nat} (h : i ≤ m) (hc : cntP p i < ((List.range m).filter p).length) : i ≤ ((List.range m).filter p).getD (cntP p i) 0 := by
  have hm := getD_mem (xs := ((List.range m).filter p)) 0 hc
  rw [fr_split p h] at hc ⊢
  rw [List.getD_eq_getElem?_getD, List.getElem?_append_right (by rw [cntP_len]; exact Nat.le_refl _), cntP_len, Nat.sub_self]
  rw [List.length_append, cntP_len] at hc
  have h0 : 0 < (((List.range (m - i)).map (i + ·)).filter p).length := by omega
  have := getD_mem (xs := (((List.range (m - i)).map (i + ·)).filter p)) 0 h0
  rw [List.getD_eq_getElem?_getD] at this
  obtain ⟨j, _, e⟩ := List.mem_map.mp (List.mem_filter.mp this).1
  rw [← e]; omega
theorem fr_eq (p : Nat → Bool) {i m : Nat} (h : i < m) (hp : p i = true) : cntP p i < ((List.range m).filter p).length ∧ ((List.range m).filter p).getD (cntP p i) 0 = i := by
  have h2 : (List.range m).filter p = (List.range i).filter p ++ i :: ((List.range (m - (i + 1))).map (i + 1 + ·)).filter p := by
    rw [fr_split p (show i + 1 ≤ m from h), range_snoc, List.filter_append, List.append_assoc]
    congr 1
    rw [List.filter_cons, if_pos hp]; rfl
  rw [h2]
  refine ⟨by rw [List.length_append, cntP_len, List.length_cons]; omega, ?_⟩
  rw [List.getD_eq_getElem?_getD, List.getElem?_append_right (by rw [cntP_len]; exact Nat.le_refl _), cntP_len, Nat.sub_self]; rfl
theorem fr_gt (p : Nat → Bool) {i m : Nat} (h : i < m) (hp : p i = false) (hc : cntP p i < ((List.range m).filter p).length) : i < ((List.range m).filter p).getD (cntP p i) 0 := by
  have e : cntP p (i + 1) = cntP p i := by show cntP p i + (if p i then 1 else 0) = _; rw [hp]; rfl
  have := fr_ge p (show i + 1 ≤ m from h) (by rw [e]; exact hc)
  rw [e] at this
  exact this
/-! ### blocks: the last of each, the first of each -/
def lastB (b : Nat → Bool) (m : Nat) : List Nat := (List.range m).filter fun a => decide (a + 1 = m) || b a
def firstB (b : Nat → Bool) (m : Nat) : List Nat := (List.range m).filter fun a => decide (a = 0) || b (a - 1)
theorem cnt_last (b : Nat → Bool) (m : Nat) {i : Nat} (h : i < m) : cntP (fun a => decide (a + 1 = m) || b a) i = cntP b i :=
  cntP_congr fun j hj => by rw [decide_eq_false (by omega : ¬ j + 1 = m), Bool.false_or]
theorem cnt_first (b : Nat → Bool) : ∀ i, cntP (fun a => decide (a = 0) || b (a - 1)) (i + 1) = 1 + cntP b i
  | 0 => rfl
  | i + 1 => by
    show cntP (fun a => decide (a = 0) || b (a - 1)) (i + 1) + (if (decide (i + 1 = 0) || b (i + 1 - 1)) then 1 else 0) = 1 + (cntP b i + _)
    rw [cnt_first b i, decide_eq_false (by omega : ¬ i + 1 = 0), Bool.false_or, Nat.add_sub_cancel, Nat.add_assoc]
theorem lastB_len (b : Nat → Bool) {m : Nat} (h : 0 < m) : (lastB b m).length = cntP b (m - 1) + 1 := by
  obtain ⟨k, rfl⟩ : ∃ k, m = k + 1 := ⟨m - 1, by omega⟩
  unfold lastB
  rw [cntP_len]
  show cntP _ k + (if (decide (k + 1 = k + 1) || b k) then 1 else 0) = _
  rw [cnt_last b (k + 1) (Nat.lt_succ_self k), decide_eq_true rfl, Bool.true_or, if_pos rfl]; rfl
theorem firstB_len (b : Nat → Bool) {m : Nat} (h : 0 < m) : (firstB b m).length = cntP b (m - 1) + 1 := by
  obtain ⟨k, rfl⟩ : ∃ k, m = k + 1 := ⟨m - 1, by omega⟩
  unfold firstB
  rw [cntP_len, cnt_first, Nat.add_sub_cancel, Nat.add_comm]
theorem spk_last (b : Nat → Bool) (m : Nat) : ∀ i, i < m → spkP .last (lastB b m) (i + 1) = cntP b i
  | 0, h => by
    show spkStep .last (lastB b m) 0 0 = 0
    unfold spkStep
    rw [if_pos rfl, if_neg (by omega)]
  | i + 1, h => by
    show spkStep .last (lastB b m) (i + 1) (spkP .last (lastB b m) (i + 1)) = _
    rw [spk_last b m i (by omega)]
    unfold spkStep
    rw [if_pos rfl]
    show _ = cntP b i + _
    have hl : cntP b i < (lastB b m).length := by rw [lastB_len b (by omega)]; have := cntP_mono b (show i ≤ m - 1 by omega); omega
    have hc := cnt_last b m (show i < m by omega)
    unfold lastB at hl ⊢
    by_cases hb : b i = true
    · have := (fr_eq (fun a => decide (a + 1 = m) || b a) (show i < m by omega) (by show (decide (i + 1 = m) || b i) = true; rw [hb, Bool.or_true])).2
      rw [hc] at this
      rw [this, if_pos (by omega), if_pos hb]
    · have hb' : b i = false := by cases h : b i <;> simp_all
      have := fr_gt (fun a => decide (a + 1 = m) || b a) (show i < m by omega) (by show (decide (i + 1 = m) || b i) = false; rw [hb', decide_eq_false (by omega : ¬ i + 1 = m)]; rfl) (by rw [hc]; exact hl)
      rw [hc] at this
      rw [if_neg (by omega), if_neg hb]
theorem spk_first (k : Kd) (hk : k ≠ .last) (b : Nat → Bool) (m : Nat) : ∀ i, i < m → spkP k (firstB b m) (i + 1) = cntP b i
  | 0, h => by
    show spkStep k (firstB b m) 0 0 = 0
    unfold spkStep
    rw [if_neg hk, if_neg ?_]
    rintro ⟨h1, h2⟩
    have hc := cnt_first b 0
    have hge := fr_ge (fun a => decide (a = 0) || b (a - 1)) (i := 1) (m := m) (by omega) (by rw [hc]; exact h1)
    rw [hc] at hge
    unfold firstB at h2
    have : cntP b 0 = 0 := rfl
    rw [this, Nat.add_zero] at hge
    rw [Nat.zero_add] at h2
    omega
  | i + 1, h => by
    show spkStep k (firstB b m) (i + 1) (spkP k (firstB b m) (i + 1)) = _
    rw [spk_first k hk b m i (by omega)]
    unfold spkStep
    rw [if_neg hk]
    show _ = cntP b i + _
    have hc := cnt_first b i
    by_cases hb : b i = true
    · have := fr_eq (fun a => decide (a = 0) || b (a - 1)) (show i + 1 < m by omega) (by show (decide (i + 1 = 0) || b (i + 1 - 1)) = true; rw [Nat.add_sub_cancel, hb, Bool.or_true])
      rw [hc, Nat.add_comm 1] at this
      rw [if_pos ⟨this.1, Nat.le_of_eq this.2⟩, if_pos hb]
    · have hb' : b i = false := by cases h : b i <;> simp_all
      rw [if_neg ?_, if_neg hb]; · rfl
      rintro ⟨h1, h2⟩
      have := fr_gt (fun a => decide (a = 0) || b (a - 1)) (show i + 1 < m by omega) (by show (decide (i + 1 = 0) || b (i + 1 - 1)) = false; rw [Nat.add_sub_cancel, hb', decide_eq_false (by omega : ¬ i + 1 = 0)]; rfl) (by rw [hc, Nat.add_comm 1]; exact h1)
      rw [hc, Nat.add_comm 1] at this
      unfold firstB at h2
      omega
/-- the range turned round -/
theorem range_rev (m : Nat) : (List.range m).reverse = (List.range m).map fun a => m - 1 - a := by
  refine List.ext_getElem? fun i => ?_
  by_cases h : i < m
  · rw [List.getElem?_reverse (by rw [List.length_range]; exact h), List.length_range, List.getElem?_range (by omega), List.getElem?_map, List.getElem?_range h]; rfl
  · rw [List.getElem?_eq_none (by rw [List.length_reverse, List.length_range]; omega), List.getElem?_eq_none (by rw [List.length_map, List.length_range]; omega)]
theorem filter_rev {p q : Nat → Bool} {m : Nat} (h : ∀ a, a < m → q (m - 1 - a) = p a) : (List.range m).filter q = (((List.range m).filter p).map fun a => m - 1 - a).reverse := by
  have e : ((List.range m).reverse).filter q = ((List.range m).filter p).map fun a => m - 1 - a := by
    rw [range_rev, List.filter_map]
    congr 1
    exact List.filter_congr fun a ha => h a (List.mem_range.mp ha)
  rw [List.filter_reverse] at e
  rw [← e, List.reverse_reverse]
theorem first_of_last {b b' : Nat → Bool} {m : Nat} (h : ∀ j, j + 1 < m → b' (m - 2 - j) = b j) : firstB b' m = ((lastB b m).map fun a => m - 1 - a).reverse :=
  filter_rev fun a ha => by
    show (decide (m - 1 - a = 0) || b' (m - 1 - a - 1)) = (decide (a + 1 = m) || b a)
    by_cases hm : a + 1 = m
    · rw [decide_eq_true (by omega : m - 1 - a = 0), decide_eq_true hm]; rfl
    · rw [decide_eq_false (by omega : ¬ m - 1 - a = 0), decide_eq_false hm, Bool.false_or, Bool.false_or, show m - 1 - a - 1 = m - 2 - a by omega, h a (by omega)]
theorem last_of_first {b b' : Nat → Bool} {m : Nat} (h : ∀ j, j + 1 < m → b' (m - 2 - j) = b j) : lastB b' m = ((firstB b m).map fun a => m - 1 - a).reverse :=
  filter_rev fun a ha => by
    show (decide (m - 1 - a + 1 = m) || b' (m - 1 - a)) = (decide (a = 0) || b (a - 1))
    by_cases hm : a = 0
    · rw [decide_eq_true (by omega : m - 1 - a + 1 = m), decide_eq_true hm]; rfl
    · rw [decide_eq_false (by omega : ¬ m - 1 - a + 1 = m), decide_eq_false hm, Bool.false_or, Bool.false_or, ← h (a - 1) (by omega), show m - 2 - (a - 1) = m - 1 - a by omega]
theorem cnt_rev {b b' : Nat → Bool} {m : Nat} (h : ∀ j, j + 1 < m → b' (m - 2 - j) = b j) : ∀ i, i < m → cntP b' (m - 1 - i) + cntP b i = cntP b (m - 1) := by
  suffices ∀ d i, i < m → m - 1 - i = d → cntP b' d + cntP b i = cntP b (m - 1) from fun i hi => this _ i hi rfl
  intro d
  induction d with
  | zero =>
    intro i hi hd
    have : i = m - 1 := by omega
    rw [this]
    show 0 + _ = _
    omega
  | succ d ih =>
    intro i hi hd
    have := ih (i + 1) (by omega) (by omega)
    show cntP b' d + (if b' d then 1 else 0) + cntP b i = _
    have e : cntP b (i + 1) = cntP b i + if b i then 1 else 0 := rfl
    rw [e] at this
    have hb : b' d = b i := by rw [← h i (by omega), show m - 2 - i = d by omega]
    rw [hb]
    omega
theorem cnt_surj (b : Nat → Bool) : ∀ {m c : Nat}, c ≤ cntP b m → ∃ i, i ≤ m ∧ cntP b i = c
  | 0, c, h => ⟨0, Nat.le_refl _, (Nat.le_zero.mp h).symm⟩
  | m + 1, c, h => by
    by_cases hc : c ≤ cntP b m
    · obtain ⟨i, h1, h2⟩ := cnt_surj b hc
      exact ⟨i, Nat.le_succ_of_le h1, h2⟩
    · have e : cntP b (m + 1) = cntP b m + if b m then 1 else 0 := rfl
      refine ⟨m + 1, Nat.le_refl _, ?_⟩
      split at e <;> omega

/-! #### MB -/
/-! ### the mirror -/
def Kd.turn : Kd → Kd
  | .last => .first | .first => .last | k => k
def Mb.turn (m : Mb) : Mb := ⟨m.k.turn, m.q⟩
def turnMs (ms : List Mb) : List Mb := ms.map Mb.turn
/-- the stream turned round -/
def rv (s : List Int) : List Int := s.reverse.map fun t => 0 - t
theorem rv_len (s : List Int) : (rv s).length = s.length := by unfold rv; rw [List.length_map, List.length_reverse]
theorem rv_get (s : List Int) {i : Nat} (h : i < s.length) : (rv s).getD (s.length - 1 - i) 0 = 0 - s.getD i 0 := by
  unfold rv
  rw [List.getD_eq_getElem?_getD, List.getElem?_map, List.getElem?_reverse (by omega), List.getD_eq_getElem?_getD, show s.length - 1 - (s.length - 1 - i) = i by omega, List.getElem?_eq_getElem h]; rfl
theorem rv_get' (s : List Int) {i : Nat} (h : i < s.length) : (rv s).getD i 0 = 0 - s.getD (s.length - 1 - i) 0 := by
  have := rv_get s (i := s.length - 1 - i) (by omega)
  rw [show s.length - 1 - (s.length - 1 - i) = i by omega] at this
  exact this
theorem rv_rv (s : List Int) : rv (rv s) = s := by
  unfold rv
  rw [← List.map_reverse, List.reverse_reverse, List.map_map]
  conv => rhs; rw [← List.map_id s]
  exact List.map_congr_left fun x _ => by show 0 - (0 - x) = x; omega
theorem rv_up {s : List Int} (h : Up s) : Up (rv s) := by
  intro i hi
  rw [rv_len] at hi
  rw [rv_get' s (by omega), rv_get' s (by omega)]
  have := h (s.length - 1 - (i + 1)) (by omega)
  rw [show s.length - 1 - (i + 1) + 1 = s.length - 1 - i by omega] at this
  omega
/-- the breaks a member sees behind the places -/
def brk (k : Kd) (q : Int) (ts : List Int) (j : Nat) : Bool :=
  match k with
  | .delay => true
  | _ => decide (q ≤ ts.getD (j + 1) 0 - ts.getD j 0)
theorem brk_rv (k : Kd) (q : Int) (ts : List Int) (j : Nat) (h : j + 1 < ts.length) : brk k.turn q (rv ts) (ts.length - 2 - j) = brk k q ts j := by
  have e : (rv ts).getD (ts.length - 2 - j + 1) 0 - (rv ts).getD (ts.length - 2 - j) 0 = ts.getD (j + 1) 0 - ts.getD j 0 := by
    rw [show ts.length - 2 - j + 1 = ts.length - 1 - j by omega, show ts.length - 2 - j = ts.length - 1 - (j + 1) by omega, rv_get ts (by omega), rv_get ts h]
    omega
  unfold brk Kd.turn
  cases k <;> simp only [e]
theorem all_range (b : Nat → Bool) (m : Nat) (h : ∀ a, a < m → b a = true) : (List.range m).filter b = List.range m := List.filter_eq_self.mpr fun a ha => h a (List.mem_range.mp ha)
theorem kept_last (q : Int) (ts : List Int) : keptK .last q ts = lastB (brk .last q ts) ts.length := rfl
theorem kept_first (q : Int) (ts : List Int) : keptK .first q ts = firstB (brk .first q ts) ts.length := by
  show (List.range ts.length).filter _ = (List.range ts.length).filter _
  refine List.filter_congr fun a ha => ?_
  by_cases h : a = 0
  · rw [decide_eq_true h]; rfl
  · show (decide (a = 0) || _) = (decide (a = 0) || decide (q ≤ ts.getD (a - 1 + 1) 0 - ts.getD (a - 1) 0))
    rw [show a - 1 + 1 = a by omega]
theorem kept_delay (q : Int) (ts : List Int) : keptK .delay q ts = firstB (brk .delay q ts) ts.length := by
  symm
  exact all_range _ _ fun a _ => by show (decide (a = 0) || true) = true; rw [Bool.or_true]
theorem kept_delay' (q : Int) (ts : List Int) : keptK .delay q ts = lastB (brk .delay q ts) ts.length := by
  symm
  exact all_range _ _ fun a _ => by show (decide (a + 1 = ts.length) || true) = true; rw [Bool.or_true]
theorem kept_rv (k : Kd) (hk : k ≠ .limit) (q : Int) (ts : List Int) : keptK k.turn q (rv ts) = ((keptK k q ts).map fun a => ts.length - 1 - a).reverse := by
  have hb : ∀ j, j + 1 < ts.length → brk k.turn q (rv ts) (ts.length - 2 - j) = brk k q ts j := brk_rv k q ts
  cases k with
  | limit => exact absurd rfl hk
  | last =>
    rw [kept_last]
    show keptK .first q (rv ts) = _
    rw [kept_first, rv_len]
    exact first_of_last hb
  | first =>
    rw [kept_first]
    show keptK .last q (rv ts) = _
    rw [kept_last, rv_len]
    exact last_of_first hb
  | delay =>
    rw [kept_delay']
    show keptK .delay q (rv ts) = _
    rw [kept_delay, rv_len]
    exact first_of_last hb
theorem kept_len_brk (k : Kd) (hk : k ≠ .limit) (q : Int) (ts : List Int) (h : 0 < ts.length) : (keptK k q ts).length = cntP (brk k q ts) (ts.length - 1) + 1 := by
  cases k with
  | limit => exact absurd rfl hk
  | last => rw [kept_last]; exact lastB_len _ h
  | first => rw [kept_first]; exact firstB_len _ h
  | delay => rw [kept_delay]; exact firstB_len _ h
theorem spk_brk (k : Kd) (hk : k ≠ .limit) (q : Int) (ts : List Int) {i : Nat} (h : i < ts.length) : spkP k (keptK k q ts) (i + 1) = cntP (brk k q ts) i := by
  cases k with
  | limit => exact absurd rfl hk
  | last => rw [kept_last]; exact spk_last _ _ i h
  | first => rw [kept_first]; exact spk_first _ (by decide) _ _ i h
  | delay => rw [kept_delay]; exact spk_first _ (by decide) _ _ i h
theorem spkL_get (k : Kd) (hk : k ≠ .limit) (q : Int) (ts : List Int) {i : Nat} (h : i < ts.length) : (spkL k ts.length (keptK k q ts)).getD i 0 = cntP (brk k q ts) i := by
  unfold spkL
  rw [List.getD_eq_getElem?_getD, List.getElem?_map, List.getElem?_range h]
  exact spk_brk k hk q ts h
/-! ### the walk over the members -/
theorem times_len (s : List Int) (nums : List Nat) : (timesOf s nums).length = nums.length := List.length_map _
theorem step_sok (s : List Int) (x : Vs) (m : Mb) (hm : m.k ≠ .limit) : SOk s x m := by
  intro i hi
  have hl : (timesOf s x.nums).length = x.nums.length := times_len ..
  rw [kept_len_brk m.k hm m.q _ (by omega)]
  cases i with
  | zero => exact Nat.succ_pos _
  | succ i =>
    rw [spk_brk m.k hm m.q _ (by omega)]
    have := cntP_mono (brk m.k m.q (timesOf s x.nums)) (show i ≤ (timesOf s x.nums).length - 1 by omega)
    omega
/-- what stays true: the numbers lie in the stream, the voices in the numbers, every number speaks -/
structure VInv (s : List Int) (x : Vs) : Prop where
  ok : VOk s x
  all : ∀ v, v < x.nums.length → v ∈ x.vs
theorem vinv_step {s : List Int} {x : Vs} (h : VInv s x) (m : Mb) (hm : m.k ≠ .limit) : VInv s (stepV s x m) := by
  obtain ⟨⟨h1, h2, h3, h4⟩, h5⟩ := h
  have hl : (timesOf s x.nums).length = x.nums.length := times_len ..
  have kl := kept_lt m.k m.q (timesOf s x.nums)
  have kn := kept_len m.k m.q (timesOf s x.nums)
  have get : ∀ v, v < x.nums.length → (spkL m.k x.nums.length (keptK m.k m.q (timesOf s x.nums))).getD v 0 = cntP (brk m.k m.q (timesOf s x.nums)) v := fun v hv => by
    rw [← hl]; exact spkL_get m.k hm m.q _ (by omega)
  refine ⟨⟨?_, ?_, ?_, ?_⟩, ?_⟩
  · intro n hn
    obtain ⟨a, ha, rfl⟩ := List.mem_map.mp hn
    exact h1 _ (getD_mem 0 (by have := kl a ha; omega))
  · show ((keptK m.k m.q (timesOf s x.nums)).map _).length ≤ _
    rw [List.length_map]; omega
  · show (x.vs.map _).length = _
    rw [List.length_map]; exact h3
  · intro v hv
    obtain ⟨u, hu, rfl⟩ := List.mem_map.mp hv
    have hu' := h4 u hu
    show _ < ((keptK m.k m.q (timesOf s x.nums)).map _).length
    rw [get u hu', List.length_map, kept_len_brk m.k hm m.q _ (by omega)]
    have := cntP_mono (brk m.k m.q (timesOf s x.nums)) (show u ≤ (timesOf s x.nums).length - 1 by omega)
    omega
  · intro c hc
    have hc : c < ((keptK m.k m.q (timesOf s x.nums)).map _).length := hc
    rw [List.length_map] at hc
    have h0 : 0 < (timesOf s x.nums).length := by omega
    rw [kept_len_brk m.k hm m.q _ h0] at hc
    obtain ⟨i, hi, e⟩ := cnt_surj (brk m.k m.q (timesOf s x.nums)) (m := (timesOf s x.nums).length - 1) (c := c) (by omega)
    refine List.mem_map.mpr ⟨i, h5 i (by omega), ?_⟩
    show (spkL m.k x.nums.length (keptK m.k m.q (timesOf s x.nums))).getD i 0 = c
    rw [get i (by omega), e]
/-- two walks, one the other's mirror -/
structure Dual (s : List Int) (x y : Vs) : Prop where
  nums : y.nums = (x.nums.map fun a => s.length - 1 - a).reverse
  vs : y.vs = (x.vs.map fun v => x.nums.length - 1 - v).reverse
theorem rmap_get {f : Nat → Nat} {xs : List Nat} {i : Nat} (h : i < xs.length) : ((xs.map f).reverse).getD (xs.length - 1 - i) 0 = f (xs.getD i 0) := by
  rw [List.getD_eq_getElem?_getD, List.getElem?_reverse (by rw [List.length_map]; omega), List.length_map, List.getElem?_map, show xs.length - 1 - (xs.length - 1 - i) = i by omega, List.getElem?_eq_getElem h, List.getD_eq_getElem?_getD, List.getElem?_eq_getElem h]; rfl
theorem dual_times {s : List Int} {x y : Vs} (h : Dual s x y) (hx : ∀ n ∈ x.nums, n < s.length) : timesOf (rv s) y.nums = rv (timesOf s x.nums) := by
  rw [h.nums]
  show ((x.nums.map fun a => s.length - 1 - a).reverse).map (fun n => (rv s).getD n 0) = ((x.nums.map fun n => s.getD n 0).reverse).map (fun t => 0 - t)
  rw [List.map_reverse, List.map_reverse, List.map_map, List.map_map]
  congr 1
  refine List.map_congr_left fun a ha => ?_
  exact rv_get s (hx a ha)
theorem dual_step {s : List Int} {x y : Vs} (h : Dual s x y) (hx : VInv s x) (m : Mb) (hm : m.k ≠ .limit) : Dual s (stepV s x m) (stepV (rv s) y m.turn) := by
  obtain ⟨⟨h1, h2, h3, h4⟩, h5⟩ := hx
  have hl : (timesOf s x.nums).length = x.nums.length := times_len ..
  have kl := kept_lt m.k m.q (timesOf s x.nums)
  have ht := dual_times h h1
  have hk : keptK m.turn.k m.turn.q (timesOf (rv s) y.nums) = ((keptK m.k m.q (timesOf s x.nums)).map fun a => x.nums.length - 1 - a).reverse := by
    rw [ht, ← hl]; exact kept_rv m.k hm m.q _
  have yl : y.nums.length = x.nums.length := by rw [h.nums, List.length_reverse, List.length_map]
  refine ⟨?_, ?_⟩
  · show (keptK m.turn.k m.turn.q (timesOf (rv s) y.nums)).map (fun a => y.nums.getD a 0) = (((keptK m.k m.q (timesOf s x.nums)).map fun a => x.nums.getD a 0).map fun a => s.length - 1 - a).reverse
    rw [hk, List.map_reverse, List.map_map, List.map_map]
    congr 1
    refine List.map_congr_left fun a ha => ?_
    show y.nums.getD (x.nums.length - 1 - a) 0 = s.length - 1 - x.nums.getD a 0
    rw [h.nums]
    exact rmap_get (by have := kl a ha; omega)
  · show y.vs.map (fun v => (spkL m.turn.k y.nums.length (keptK m.turn.k m.turn.q (timesOf (rv s) y.nums))).getD v 0) = ((x.vs.map fun v => (spkL m.k x.nums.length (keptK m.k m.q (timesOf s x.nums))).getD v 0).map fun v => ((keptK m.k m.q (timesOf s x.nums)).map fun a => x.nums.getD a 0).length - 1 - v).reverse
    rw [h.vs, List.map_reverse, List.map_map, List.map_map, List.length_map]
    congr 1
    refine List.map_congr_left fun v hv => ?_
    have hv := h4 v hv
    show (spkL m.turn.k y.nums.length (keptK m.turn.k m.turn.q (timesOf (rv s) y.nums))).getD (x.nums.length - 1 - v) 0 = (keptK m.k m.q (timesOf s x.nums)).length - 1 - (spkL m.k x.nums.length (keptK m.k m.q (timesOf s x.nums))).getD v 0
    have hmt : m.turn.k ≠ .limit := by
      show m.k.turn ≠ .limit
      revert hm
      cases m.k <;> decide
    rw [yl, ht]
    have e1 := spkL_get m.turn.k hmt m.turn.q (rv (timesOf s x.nums)) (i := x.nums.length - 1 - v) (by rw [rv_len]; omega)
    have e2 := spkL_get m.k hm m.q (timesOf s x.nums) (i := v) (by omega)
    rw [rv_len, hl] at e1
    rw [hl] at e2
    rw [e1, e2, kept_len_brk m.k hm m.q _ (by omega)]
    have hb : ∀ j, j + 1 < (timesOf s x.nums).length → brk m.turn.k m.turn.q (rv (timesOf s x.nums)) ((timesOf s x.nums).length - 2 - j) = brk m.k m.q (timesOf s x.nums) j := brk_rv m.k m.q _
    have := cnt_rev hb v (by omega)
    rw [hl] at this ⊢
    omega
theorem dual_fold (s : List Int) : ∀ (ms : List Mb) (x y : Vs), NoL ms → Dual s x y → VInv s x → Dual s (ms.foldl (stepV s) x) ((turnMs ms).foldl (stepV (rv s)) y) ∧ VInv s (ms.foldl (stepV s) x)
  | [], x, y, _, d, i => ⟨d, i⟩
  | m :: ms, x, y, hl, d, i => by
    have hm := hl m (List.mem_cons_self ..)
    exact dual_fold s ms _ _ (fun u hu => hl u (List.mem_cons_of_mem _ hu)) (dual_step d i m hm) (vinv_step i m hm)
theorem vinv_fold (s : List Int) : ∀ (ms : List Mb) (x : Vs), NoL ms → VInv s x → VInv s (ms.foldl (stepV s) x)
  | [], _, _, i => i
  | m :: ms, x, hl, i => vinv_fold s ms _ (fun u hu => hl u (List.mem_cons_of_mem _ hu)) (vinv_step i m (hl m (List.mem_cons_self ..)))
theorem vinv_0 (s : List Int) : VInv s ⟨List.range s.length, List.range s.length⟩ :=
  ⟨⟨fun n hn => List.mem_range.mp hn, Nat.le_of_eq List.length_range, List.length_range, fun v hv => by rw [List.length_range]; exact List.mem_range.mp hv⟩, fun v hv => by rw [List.length_range] at hv; exact List.mem_range.mpr hv⟩
theorem dual_0 (s : List Int) : Dual s ⟨List.range s.length, List.range s.length⟩ ⟨List.range (rv s).length, List.range (rv s).length⟩ := by
  have e : List.range (rv s).length = ((List.range s.length).map fun a => s.length - 1 - a).reverse := by
    rw [← range_rev, List.reverse_reverse, rv_len]
  exact ⟨e, by show _ = ((List.range s.length).map fun v => (List.range s.length).length - 1 - v).reverse; rw [List.length_range]; exact e⟩
theorem noL_turn {ms : List Mb} (h : NoL ms) : NoL (turnMs ms) := by
  intro m hm
  obtain ⟨u, hu, rfl⟩ := List.mem_map.mp hm
  have := h u hu
  show u.k.turn ≠ .limit
  revert this
  cases u.k <;> decide
theorem told_ok (ms : List Mb) (s : List Int) (h : NoL ms) : ∀ i, i < ms.length → VOk s ((ms.take i).foldl (stepV s) ⟨List.range s.length, List.range s.length⟩) ∧ SOk s ((ms.take i).foldl (stepV s) ⟨List.range s.length, List.range s.length⟩) (ms.getD i ⟨.last, 0⟩) := fun i hi =>
  ⟨(vinv_fold s (ms.take i) _ (fun u hu => h u (List.mem_of_mem_take hu)) (vinv_0 s)).ok, step_sok s _ _ (h _ (getD_mem _ hi))⟩
/-! ### heads and tails -/
theorem least {p : Nat → Prop} (i : Nat) (h : p i) : ∃ m, m ≤ i ∧ p m ∧ ∀ u, u < m → ¬ p u := by
  induction i using Nat.strongRecOn with
  | _ l il =>
    by_cases hh : ∃ u, u < l ∧ p u
    · obtain ⟨u, hu, eu⟩ := hh
      obtain ⟨m, h1, h2⟩ := il u hu eu
      exact ⟨m, by omega, h2⟩
    · exact ⟨l, Nat.le_refl _, h, fun u hu eu => hh ⟨u, hu, eu⟩⟩
theorem hdF_iff (vs : List Nat) (v : Nat) : ∀ i j, hdF vs i v = some j ↔ j < i ∧ vs.getD j 0 = v ∧ ∀ l, l < j → vs.getD l 0 ≠ v
  | 0, j => by
    show none = some j ↔ _
    exact ⟨(fun h => nomatch h), fun h => absurd h.1 (Nat.not_lt_zero _)⟩
  | i + 1, j => by
    have ih := hdF_iff vs v i
    show (if v = vs.getD i 0 then some ((hdF vs i v).getD i) else hdF vs i v) = some j ↔ _
    by_cases h : v = vs.getD i 0
    · rw [if_pos h]
      cases e : hdF vs i v with
      | some k =>
        obtain ⟨a1, a2, a3⟩ := (ih k).mp e
        show some k = some j ↔ _
        constructor
        · intro q
          cases q
          exact ⟨by omega, a2, a3⟩
        · rintro ⟨b1, b2, b3⟩
          congr 1
          rcases Nat.lt_trichotomy k j with c | c | c
          · exact absurd a2 (b3 k c)
          · exact c
          · exact absurd b2 (a3 j c)
      | none =>
        show some i = some j ↔ _
        constructor
        · intro q
          cases q
          refine ⟨Nat.lt_succ_self _, h.symm, fun l hl q => ?_⟩
          obtain ⟨m, h1, h2, h3⟩ := least (p := fun m => vs.getD m 0 = v) l q
          have := (ih m).mpr ⟨by omega, h2, h3⟩
          rw [e] at this
          cases this
        · rintro ⟨b1, b2, b3⟩
          congr 1
          rcases Nat.lt_or_ge j i with c | c
          · have := (ih j).mpr ⟨c, b2, b3⟩
            rw [e] at this
            cases this
          · omega
    · rw [if_neg h, ih j]
      constructor
      · rintro ⟨a1, a2, a3⟩
        exact ⟨by omega, a2, a3⟩
      · rintro ⟨a1, a2, a3⟩
        refine ⟨?_, a2, a3⟩
        rcases Nat.lt_or_ge j i with c | c
        · exact c
        · have : j = i := by omega
          rw [this] at a2
          exact absurd a2.symm h
theorem tlF_iff (vs : List Nat) (v : Nat) : ∀ i j, tlF vs i v = some j ↔ j < i ∧ vs.getD j 0 = v ∧ ∀ l, j < l → l < i → vs.getD l 0 ≠ v
  | 0, j => by
    show none = some j ↔ _
    exact ⟨(fun h => nomatch h), fun h => absurd h.1 (Nat.not_lt_zero _)⟩
  | i + 1, j => by
    have ih := tlF_iff vs v i
    show (if v = vs.getD i 0 then some i else tlF vs i v) = some j ↔ _
    by_cases h : v = vs.getD i 0
    · rw [if_pos h]
      constructor
      · intro q
        cases q
        exact ⟨Nat.lt_succ_self _, h.symm, fun l a b => by omega⟩
      · rintro ⟨a1, a2, a3⟩
        congr 1
        rcases Nat.lt_or_ge j i with c | c
        · exact absurd h.symm (a3 i c (Nat.lt_succ_self _))
        · omega
    · rw [if_neg h, ih j]
      constructor
      · rintro ⟨a1, a2, a3⟩
        refine ⟨by omega, a2, fun l b1 b2 => ?_⟩
        rcases Nat.lt_or_ge l i with c | c
        · exact a3 l b1 c
        · rw [show l = i by omega]; exact fun q => h q.symm
      · rintro ⟨a1, a2, a3⟩
        refine ⟨?_, a2, fun l b1 b2 => a3 l b1 (by omega)⟩
        rcases Nat.lt_or_ge j i with c | c
        · exact c
        · have : j = i := by omega
          rw [this] at a2
          exact absurd a2.symm h
theorem hd_some {vs : List Nat} {v n : Nat} (hn : vs.length = n) (h : v ∈ vs) : (hdF vs n v).isSome = true ∧ (tlF vs n v).isSome = true := by
  obtain ⟨i, hi, e⟩ := List.mem_iff_getElem.mp h
  have e' : vs.getD i 0 = v := by rw [List.getD_eq_getElem?_getD, List.getElem?_eq_getElem hi]; exact e
  rw [hn] at hi
  constructor
  · obtain ⟨m, h1, h2, h3⟩ := least (p := fun m => vs.getD m 0 = v) i e'
    rw [(hdF_iff vs v n m).mpr ⟨by omega, h2, h3⟩]; rfl
  · have hex : ∀ d i, n - i = d → i < n → vs.getD i 0 = v → ∃ m, m < n ∧ vs.getD m 0 = v ∧ ∀ u, m < u → u < n → vs.getD u 0 ≠ v := by
      intro d
      induction d using Nat.strongRecOn with
      | _ d il =>
        intro i hd hi ei
        by_cases hh : ∃ u, i < u ∧ u < n ∧ vs.getD u 0 = v
        · obtain ⟨u, hu, hu2, eu⟩ := hh
          exact il (n - u) (by omega) u rfl hu2 eu
        · exact ⟨i, hi, ei, fun u hu hu2 eu => hh ⟨u, hu, hu2, eu⟩⟩
    obtain ⟨m, h1, h2, h3⟩ := hex _ i rfl hi e'
    rw [(tlF_iff vs v n m).mpr ⟨h1, h2, h3⟩]; rfl
theorem hd_dual {vs ws : List Nat} {m n v : Nat} (hn : vs.length = n) (hw : ws = (vs.map fun v => m - 1 - v).reverse) (hlt : ∀ u ∈ vs, u < m) (hv : v < m) : hdF ws n (m - 1 - v) = (tlF vs n v).map fun j => n - 1 - j := by
  have get : ∀ j, j < n → ws.getD (n - 1 - j) 0 = m - 1 - vs.getD j 0 := fun j hj => by rw [hw, ← hn]; exact rmap_get (by omega)
  have lt : ∀ j, j < n → vs.getD j 0 < m := fun j hj => hlt _ (getD_mem 0 (by omega))
  cases e : tlF vs n v with
  | some j =>
    obtain ⟨a1, a2, a3⟩ := (tlF_iff vs v n j).mp e
    show hdF ws n (m - 1 - v) = some (n - 1 - j)
    refine (hdF_iff ws _ n _).mpr ⟨by omega, by rw [get j a1, a2], fun l hl q => ?_⟩
    have := get (n - 1 - l) (by omega)
    rw [show n - 1 - (n - 1 - l) = l by omega] at this
    rw [this] at q
    have h2 := lt (n - 1 - l) (by omega)
    exact a3 (n - 1 - l) (by omega) (by omega) (by omega)
  | none =>
    cases e2 : hdF ws n (m - 1 - v) with
    | none => rfl
    | some k =>
      obtain ⟨a1, a2, _⟩ := (hdF_iff ws _ n k).mp e2
      have := get (n - 1 - k) (by omega)
      rw [show n - 1 - (n - 1 - k) = k by omega, a2] at this
      have h2 := lt (n - 1 - k) (by omega)
      have hmem : v ∈ vs := by
        have : vs.getD (n - 1 - k) 0 = v := by omega
        rw [← this]; exact getD_mem 0 (by omega)
      have := (hd_some hn hmem).2
      rw [e] at this
      cases this
theorem tl_dual {vs ws : List Nat} {m n v : Nat} (hn : vs.length = n) (hw : ws = (vs.map fun v => m - 1 - v).reverse) (hlt : ∀ u ∈ vs, u < m) (hv : v < m) : tlF ws n (m - 1 - v) = (hdF vs n v).map fun j => n - 1 - j := by
  have get : ∀ j, j < n → ws.getD (n - 1 - j) 0 = m - 1 - vs.getD j 0 := fun j hj => by rw [hw, ← hn]; exact rmap_get (by omega)
  have lt : ∀ j, j < n → vs.getD j 0 < m := fun j hj => hlt _ (getD_mem 0 (by omega))
  cases e : hdF vs n v with
  | some j =>
    obtain ⟨a1, a2, a3⟩ := (hdF_iff vs v n j).mp e
    show tlF ws n (m - 1 - v) = some (n - 1 - j)
    refine (tlF_iff ws _ n _).mpr ⟨by omega, by rw [get j a1, a2], fun l hl hl2 q => ?_⟩
    have := get (n - 1 - l) (by omega)
    rw [show n - 1 - (n - 1 - l) = l by omega] at this
    rw [this] at q
    have h2 := lt (n - 1 - l) (by omega)
    exact a3 (n - 1 - l) (by omega) (by omega)
  | none =>
    cases e2 : tlF ws n (m - 1 - v) with
    | none => rfl
    | some k =>
      obtain ⟨a1, a2, _⟩ := (tlF_iff ws _ n k).mp e2
      have := get (n - 1 - k) (by omega)
      rw [show n - 1 - (n - 1 - k) = k by omega, a2] at this
      have h2 := lt (n - 1 - k) (by omega)
      have hmem : v ∈ vs := by
        have : vs.getD (n - 1 - k) 0 = v := by omega
        rw [← this]; exact getD_mem 0 (by omega)
      have := (hd_some hn hmem).1
      rw [e] at this
      cases this

/-! #### MC -/
theorem toldM_get (ms : List Mb) (s : List Int) (i : Nat) : (toldM ms s)[i]? = ((foldV ms s).nums[i]?).map fun n => (n, s.getD n 0 + late ms, (hdF (foldV ms s).vs s.length i).getD 0, (tlF (foldV ms s).vs s.length i).getD 0) := by
  unfold toldM
  rw [List.getElem?_map, List.getElem?_zipIdx]
  cases (foldV ms s).nums[i]? with
  | none => rfl
  | some n =>
    show some _ = some _
    rw [Nat.zero_add]
theorem toldM_len (ms : List Mb) (s : List Int) : (toldM ms s).length = (foldV ms s).nums.length := by unfold toldM; rw [List.length_map, List.length_zipIdx]
def tripD (t : Nat × Int × Nat × Nat) : Int × Int × Int := ((t.1 : Int), (t.2.2.1 : Int), (t.2.2.2 : Int))
def tripR (n : Nat) (t : Nat × Int × Nat × Nat) : Int × Int × Int := ((n : Int) - 1 - (t.1 : Int), (n : Int) - 1 - (t.2.2.2 : Int), (n : Int) - 1 - (t.2.2.1 : Int))
theorem told_dual (ms : List Mb) (s : List Int) (h : NoL ms) : (toldM (turnMs ms) (rv s)).map tripD = (toldM ms s).reverse.map (tripR s.length) := by
  obtain ⟨d, i⟩ := dual_fold s ms _ _ h (dual_0 s) (vinv_0 s)
  have d : Dual s (foldV ms s) (foldV (turnMs ms) (rv s)) := d
  have i : VInv s (foldV ms s) := i
  obtain ⟨⟨h1, h2, h3, h4⟩, h5⟩ := i
  have yl : (foldV (turnMs ms) (rv s)).nums.length = (foldV ms s).nums.length := by rw [d.nums, List.length_reverse, List.length_map]
  refine List.ext_getElem? fun k => ?_
  by_cases hk : k < (foldV ms s).nums.length
  · rw [List.getElem?_map, List.getElem?_map, toldM_get, List.getElem?_reverse (by rw [toldM_len]; exact hk), toldM_len, toldM_get]
    have e1 : (foldV (turnMs ms) (rv s)).nums[k]? = some (s.length - 1 - (foldV ms s).nums.getD ((foldV ms s).nums.length - 1 - k) 0) := by
      have := rmap_get (f := fun a => s.length - 1 - a) (xs := (foldV ms s).nums) (i := (foldV ms s).nums.length - 1 - k) (by omega)
      rw [← d.nums, show (foldV ms s).nums.length - 1 - ((foldV ms s).nums.length - 1 - k) = k by omega, List.getD_eq_getElem?_getD, List.getElem?_eq_getElem (by omega)] at this
      rw [List.getElem?_eq_getElem (by omega)]
      exact congrArg some this
    have hkm : (foldV ms s).nums.length - 1 - k < (foldV ms s).nums.length := by omega
    have e2 : (foldV ms s).nums[(foldV ms s).nums.length - 1 - k]? = some ((foldV ms s).nums.getD ((foldV ms s).nums.length - 1 - k) 0) := by
      rw [List.getD_eq_getElem?_getD, List.getElem?_eq_getElem hkm]; rfl
    rw [e1, e2]
    show some _ = some _
    congr 1
    have hv := hd_some h3 (h5 _ hkm)
    have q1 := hd_dual (n := s.length) h3 d.vs h4 hkm
    have q2 := tl_dual (n := s.length) h3 d.vs h4 hkm
    rw [show (foldV ms s).nums.length - 1 - ((foldV ms s).nums.length - 1 - k) = k by omega] at q1 q2
    obtain ⟨u1, w1⟩ := Option.isSome_iff_exists.mp hv.1
    obtain ⟨u2, w2⟩ := Option.isSome_iff_exists.mp hv.2
    have l1 := ((hdF_iff _ _ _ _).mp w1).1
    have l2 := ((tlF_iff _ _ _ _).mp w2).1
    have l0 := h1 _ (getD_mem 0 hkm)
    unfold tripD tripR
    rw [rv_len, q1, q2, w1, w2]
    simp only [Option.map_some, Option.getD_some]
    refine Prod.ext ?_ (Prod.ext ?_ ?_) <;> simp only <;> omega
  · rw [List.getElem?_eq_none (by rw [List.length_map, toldM_len]; omega), List.getElem?_eq_none (by rw [List.length_map, List.length_reverse, toldM_len]; omega)]
/-! ### the kept numbers -/
theorem foldV_nums (ms : List Mb) (s : List Int) : (foldV ms s).nums = keptNums ms s := by
  suffices ∀ (ms : List Mb) (x : Vs), (ms.foldl (stepV s) x).nums = ms.foldl (stepN s) x.nums from this ms _
  intro ms
  induction ms with
  | nil => intro x; rfl
  | cons m ms ih => intro x; exact ih _
theorem kept_dual (ms : List Mb) (s : List Int) (h : NoL ms) : keptNums (turnMs ms) (rv s) = ((keptNums ms s).map fun a => s.length - 1 - a).reverse := by
  rw [← foldV_nums, ← foldV_nums]
  exact (dual_fold s ms _ _ h (dual_0 s) (vinv_0 s)).1.nums
/-- far apart, each from each behind it -/
def Far (s : List Int) (q : Int) (nums : List Nat) : Prop := nums.Pairwise fun a b => a < b ∧ q ≤ s.getD b 0 - s.getD a 0
theorem up_lt {s : List Int} (h : Up s) : ∀ {b a : Nat}, a < b → b < s.length → s.getD a 0 < s.getD b 0
  | 0, a, h1, _ => absurd h1 (Nat.not_lt_zero _)
  | b + 1, a, h1, h2 => by
    have := h b h2
    rcases Nat.lt_or_ge a b with c | c
    · have := up_lt h c (by omega); omega
    · rw [show a = b by omega]; exact this
theorem far_range {s : List Int} (h : Up s) : Far s 1 (List.range s.length) := by
  unfold Far
  rw [List.pairwise_iff_getElem]
  intro i j hi hj hij
  rw [List.getElem_range, List.getElem_range]
  rw [List.length_range] at hj
  have := up_lt h hij hj
  exact ⟨hij, by omega⟩
theorem getD_far {s : List Int} {q : Int} {nums : List Nat} (h : Far s q nums) {i j : Nat} (hij : i < j) (hj : j < nums.length) : nums.getD i 0 < nums.getD j 0 ∧ q ≤ s.getD (nums.getD j 0) 0 - s.getD (nums.getD i 0) 0 := by
  have := (List.pairwise_iff_getElem.mp h) i j (by omega) hj hij
  rw [List.getD_eq_getElem?_getD, List.getElem?_eq_getElem (by omega : i < nums.length), List.getD_eq_getElem?_getD, List.getElem?_eq_getElem hj]
  exact this
/-- the kept indices rise -/
theorem kept_rise (k : Kd) (hk : k ≠ .limit) (q : Int) (ts : List Int) : (keptK k q ts).Pairwise (· < ·) := by
  have hr : (List.range ts.length).Pairwise (· < ·) := List.pairwise_lt_range
  cases k with
  | limit => exact absurd rfl hk
  | delay => exact hr
  | last => exact hr.filter _
  | first => exact hr.filter _
/-- a sublist by rising indices -/
theorem far_sub {s : List Int} {q : Int} {nums : List Nat} (h : Far s q nums) {idx : List Nat} (hi : idx.Pairwise (· < ·)) (hl : ∀ a ∈ idx, a < nums.length) : Far s q (idx.map fun a => nums.getD a 0) := by
  unfold Far
  rw [List.pairwise_map]
  refine List.Pairwise.imp_of_mem (fun {a b} ha hb hab => ?_) hi
  exact getD_far h hab (hl b hb)
theorem timesOf_get (s : List Int) (nums : List Nat) {i : Nat} (h : i < nums.length) : (timesOf s nums).getD i 0 = s.getD (nums.getD i 0) 0 := by
  have e : nums.getD i 0 = nums[i] := by rw [List.getD_eq_getElem?_getD, List.getElem?_eq_getElem h]; rfl
  have e2 : (nums.map fun n => s.getD n 0).getD i 0 = (fun n => s.getD n 0) nums[i] := by
    generalize (fun n => s.getD n 0) = f
    rw [List.getD_eq_getElem?_getD, List.getElem?_map, List.getElem?_eq_getElem h]; rfl
  rw [e]
  exact e2
/-- what a member keeps lies as far apart as it asks -/
theorem far_kept {s : List Int} {r : Int} {nums : List Nat} (hu : Far s r nums) (hr : 0 ≤ r) (k : Kd) (hk : k = .last ∨ k = .first) (q : Int) : Far s q ((keptK k q (timesOf s nums)).map fun a => nums.getD a 0) := by
  have hkl : k ≠ .limit := by rcases hk with rfl | rfl <;> decide
  have kl := kept_lt k q (timesOf s nums)
  rw [times_len] at kl
  unfold Far
  rw [List.pairwise_map]
  refine List.Pairwise.imp_of_mem (fun {a b} ha hb hab => ?_) (kept_rise k hkl q (timesOf s nums))
  have hb' := kl b hb
  have h1 := getD_far hu hab hb'
  refine ⟨h1.1, ?_⟩
  have mono : ∀ i j, i ≤ j → j < nums.length → s.getD (nums.getD i 0) 0 ≤ s.getD (nums.getD j 0) 0 := fun i j hij hj => by
    rcases Nat.lt_or_ge i j with c | c
    · have := (getD_far hu c hj).2; omega
    · rw [show i = j by omega]; exact Int.le_refl _
  rcases hk with rfl | rfl
  · have hp := (List.mem_filter.mp ha).2
    have hp : (decide (a + 1 = (timesOf s nums).length) || decide (q ≤ (timesOf s nums).getD (a + 1) 0 - (timesOf s nums).getD a 0)) = true := hp
    rw [times_len, decide_eq_false (by omega : ¬ a + 1 = nums.length), Bool.false_or, decide_eq_true_eq, timesOf_get s nums (by omega), timesOf_get s nums (by omega)] at hp
    have := mono (a + 1) b (by omega) hb'
    omega
  · have hp := (List.mem_filter.mp hb).2
    have hp : (decide (b = 0) || decide (q ≤ (timesOf s nums).getD b 0 - (timesOf s nums).getD (b - 1) 0)) = true := hp
    rw [decide_eq_false (by omega : ¬ b = 0), Bool.false_or, decide_eq_true_eq, timesOf_get s nums hb', timesOf_get s nums (by omega)] at hp
    have := mono a (b - 1) (by omega) (by omega)
    omega
theorem far_step {s : List Int} {r : Int} {nums : List Nat} (hu : Far s r nums) (m : Mb) (hm : m.k ≠ .limit) : Far s r (stepN s nums m) := by
  unfold stepN
  refine far_sub hu (kept_rise m.k hm m.q _) fun a ha => ?_
  have := kept_lt m.k m.q (timesOf s nums) a ha
  rw [times_len] at this
  exact this
/-- behind all members: as far apart as each asks that is no Delay -/
theorem far_fold (s : List Int) : ∀ (ms : List Mb) (nums : List Nat), NoL ms → Far s 1 nums → Far s 1 (ms.foldl (stepN s) nums) ∧ ∀ m ∈ ms, m.k ≠ .delay → Far s m.q (ms.foldl (stepN s) nums)
  | [], nums, _, h => ⟨h, fun m hm => nomatch hm⟩
  | m :: ms, nums, hl, h => by
    have hm := hl m (List.mem_cons_self ..)
    have hl' : NoL ms := fun u hu => hl u (List.mem_cons_of_mem _ hu)
    obtain ⟨a, b⟩ := far_fold s ms (stepN s nums m) hl' (far_step h m hm)
    refine ⟨a, fun u hu hd => ?_⟩
    rcases List.mem_cons.mp hu with rfl | hu
    · have keep : ∀ (ms : List Mb) (nums : List Nat), NoL ms → Far s u.q nums → Far s u.q (ms.foldl (stepN s) nums) := by
        intro ms
        induction ms with
        | nil => intro nums _ h; exact h
        | cons v vs ih => intro nums hl h; exact ih _ (fun u hu => hl u (List.mem_cons_of_mem _ hu)) (far_step h v (hl v (List.mem_cons_self ..)))
      refine keep ms _ hl' (far_kept h (by decide) u.k ?_ u.q)
      revert hm hd
      cases u.k <;> simp
    · exact b u hu hd
theorem kept_ne {k : Kd} (hk : k ≠ .limit) (q : Int) {ts : List Int} (h : 0 < ts.length) : 0 < (keptK k q ts).length := by
  rw [kept_len_brk k hk q ts h]; exact Nat.succ_pos _
theorem keptNums_ne (s : List Int) (h : 0 < s.length) (ms : List Mb) (hl : NoL ms) : 0 < (keptNums ms s).length := by
  suffices ∀ (ms : List Mb) (nums : List Nat), NoL ms → 0 < nums.length → 0 < (ms.foldl (stepN s) nums).length from this ms _ hl (by rw [List.length_range]; exact h)
  intro ms
  induction ms with
  | nil => intro nums _ h; exact h
  | cons m ms ih =>
    intro nums hl h
    refine ih _ (fun u hu => hl u (List.mem_cons_of_mem _ hu)) ?_
    unfold stepN
    rw [List.length_map]
    exact kept_ne (hl m (List.mem_cons_self ..)) m.q (by rw [times_len]; exact h)
/-- the records are among what is asked -/
theorem rec_of (ms : List Mb) : ∀ r ∈ recsOf ms, ∃ m ∈ ms, m.k = r.1 ∧ m.q = r.2 ∧ m.k ≠ .delay := by
  intro r hr
  obtain ⟨i, hi, rfl⟩ := List.mem_map.mp hr
  obtain ⟨j, e, hj, hk⟩ := rpF_mem ms 0 1 i hi
  rw [Nat.zero_add] at e
  subst e
  exact ⟨_, getD_mem _ hj, rfl, rfl, hk⟩
theorem grq_le {rs : List Rec} {q : Int} (h1 : 1 ≤ q) (h : ∀ r ∈ rs, r.2 ≤ q) : grq rs ≤ q := (grq_bd h h1).2

/-! #### MD -/
/-! ### groups of gaps -/
def stP (x : S3) (p : P2 × List P2) : P2 × List P2 := if x.c then ((0, 0), (x.a + p.1.1, x.b + p.1.2) :: p.2) else ((x.a + p.1.1, x.b + p.1.2), p.2)
def grpP (xs : List S3) : P2 × List P2 := xs.foldr stP ((0, 0), [])
theorem grpP_cons (x : S3) (xs : List S3) : grpP (x :: xs) = stP x (grpP xs) := rfl
theorem jb_fold : ∀ (xs : List S3), (xs.foldl jbStep [] = (grpP xs).2) ∧ ∀ (f : List P2) (p : P2), xs.foldl jbStep (f ++ [p]) = f ++ (p.1 + (grpP xs).1.1, p.2 + (grpP xs).1.2) :: (grpP xs).2
  | [] => ⟨rfl, fun f p => by show f ++ [p] = f ++ [(p.1 + 0, p.2 + 0)]; rw [Int.add_zero, Int.add_zero]⟩
  | x :: xs => by
    obtain ⟨h1, h2⟩ := jb_fold xs
    rw [grpP_cons]
    by_cases hc : x.c = true
    · have e0 : jbStep [] x = [] ++ [(x.a, x.b)] := by unfold jbStep; rw [if_pos hc]
      refine ⟨?_, fun f p => ?_⟩
      · rw [List.foldl_cons, e0, h2]
        unfold stP
        rw [if_pos hc]; rfl
      · have e1 : jbStep (f ++ [p]) x = (f ++ [p]) ++ [(x.a, x.b)] := by unfold jbStep; rw [if_pos hc]
        rw [List.foldl_cons, e1, h2]
        unfold stP
        rw [if_pos hc]
        show (f ++ [p]) ++ _ = f ++ (p.1 + 0, p.2 + 0) :: _
        rw [Int.add_zero, Int.add_zero, List.append_assoc]; rfl
    · have e0 : jbStep [] x = [] := by unfold jbStep; rw [if_neg hc]; rfl
      refine ⟨?_, fun f p => ?_⟩
      · rw [List.foldl_cons, e0, h1]
        unfold stP
        rw [if_neg hc]
      · have e1 : jbStep (f ++ [p]) x = f ++ [(p.1 + x.a, p.2 + x.b)] := by
          unfold jbStep
          rw [if_neg hc, if_neg (by simp)]
          rw [List.length_append, List.length_singleton, Nat.add_sub_cancel, List.set_append_right _ _ (Nat.le_refl _), Nat.sub_self]
          simp
        rw [List.foldl_cons, e1, h2]
        unfold stP
        rw [if_neg hc]
        show f ++ (p.1 + x.a + _, p.2 + x.b + _) :: _ = f ++ (p.1 + (x.a + _), p.2 + (x.b + _)) :: _
        rw [Int.add_assoc, Int.add_assoc]
theorem jb_grp (xs : List S3) : jb xs = (grpP xs).2 := (jb_fold xs).1
theorem lead_grp : ∀ xs : List S3, (sumG (lead xs), sumC (lead xs)) = (grpP xs).1
  | [] => rfl
  | x :: xs => by
    rw [grpP_cons]
    unfold stP lead
    rw [List.takeWhile_cons]
    by_cases hc : x.c = true
    · rw [if_pos hc, hc]; rfl
    · have hc' : x.c = false := by cases h : x.c <;> simp_all
      rw [if_neg hc, hc']
      have := lead_grp xs
      show (sumG (x :: lead xs), sumC (x :: lead xs)) = _
      rw [← this]; rfl
/-- a step list that begins by a quiet gap, or is empty -/
def Qs0 (xs : List S3) : Prop := ∀ x, xs.head? = some x → x.c = true
theorem qs0_grp {xs : List S3} (h : Qs0 xs) : (grpP xs).1 = (0, 0) := by
  cases xs with
  | nil => rfl
  | cons x xs => rw [grpP_cons]; unfold stP; rw [if_pos (h x rfl)]
theorem grp_cat {ys : List S3} (h : (grpP ys).1 = (0, 0)) : ∀ xs : List S3, grpP (xs ++ ys) = ((grpP xs).1, (grpP xs).2 ++ (grpP ys).2)
  | [] => Prod.ext h rfl
  | x :: xs => by
    rw [List.cons_append, grpP_cons, grpP_cons, grp_cat h xs]
    unfold stP
    split <;> rfl
theorem grp_rep {ys zs : List S3} (h : (grpP ys).1 = (0, 0)) (h2 : (grpP zs).1 = (0, 0)) : ∀ n : Nat, grpP ((List.replicate n ys).flatten ++ zs) = ((0, 0), (List.replicate n (grpP ys).2).flatten ++ (grpP zs).2)
  | 0 => Prod.ext h2 rfl
  | n + 1 => by
    rw [List.replicate_succ, List.flatten_cons, List.append_assoc, grp_cat (by rw [grp_rep h h2 n]) ys, grp_rep h h2 n, h, List.replicate_succ, List.flatten_cons, List.append_assoc]
/-- the gaps alone -/
def grp (q : Int) (gs : List Int) : Int × List Int := gs.foldr (fun g p => if q ≤ g then (0, (g + p.1) :: p.2) else (g + p.1, p.2)) (0, [])
theorem grp_marks (q : Int) : ∀ gs : List Int, ((grpP (marks q gs)).1.1, (grpP (marks q gs)).2.map fun p => p.1) = grp q gs
  | [] => rfl
  | g :: gs => by
    have ih := grp_marks q gs
    show ((stP ⟨g, 1, decide (q ≤ g)⟩ (grpP (marks q gs))).1.1, (stP ⟨g, 1, decide (q ≤ g)⟩ (grpP (marks q gs))).2.map fun p => p.1) = (if q ≤ g then (0, (g + (grp q gs).1) :: (grp q gs).2) else (g + (grp q gs).1, (grp q gs).2))
    rw [← ih]
    unfold stP
    by_cases h : q ≤ g
    · rw [if_pos h, if_pos (decide_eq_true h)]; rfl
    · rw [if_neg h, if_neg (by rw [decide_eq_true_eq]; exact h)]
theorem grp_sum (q : Int) : ∀ gs : List Int, (grp q gs).1 + (grp q gs).2.sum = gs.sum
  | [] => rfl
  | g :: gs => by
    have ih := grp_sum q gs
    show (if q ≤ g then (0, (g + (grp q gs).1) :: (grp q gs).2) else (g + (grp q gs).1, (grp q gs).2) : Int × List Int).1 + (if q ≤ g then (0, (g + (grp q gs).1) :: (grp q gs).2) else (g + (grp q gs).1, (grp q gs).2) : Int × List Int).2.sum = _
    rw [List.sum_cons]
    split
    · rw [List.sum_cons]; show 0 + (g + _ + _) = _; omega
    · show g + _ + (grp q gs).2.sum = _; omega
theorem marks_app (q : Int) (a b : List Int) : marks q (a ++ b) = marks q a ++ marks q b := List.map_append
theorem marks_rep (q : Int) (a : List Int) (n : Nat) : marks q (List.replicate n a).flatten = (List.replicate n (marks q a)).flatten := by
  induction n with
  | zero => rfl
  | succ n ih => rw [List.replicate_succ, List.flatten_cons, marks_app, ih, List.replicate_succ, List.flatten_cons]
/-- steps without a quiet gap add up -/
theorem grp_loud {ys : List S3} : ∀ {ns : List S3}, (∀ x ∈ ns, x.c = false) → (grpP (ns ++ ys)).1.1 = sumG ns + (grpP ys).1.1 ∧ (grpP (ns ++ ys)).2 = (grpP ys).2
  | [], _ => ⟨by show _ = 0 + _; rw [Int.zero_add]; rfl, rfl⟩
  | x :: ns, h => by
    have hc := h x (List.mem_cons_self ..)
    obtain ⟨i1, i2⟩ := grp_loud (ys := ys) (ns := ns) fun y hy => h y (List.mem_cons_of_mem _ hy)
    rw [List.cons_append, grpP_cons]
    unfold stP
    rw [hc, if_neg Bool.false_ne_true]
    refine ⟨?_, i2⟩
    show x.a + _ = _
    rw [i1]
    show _ = (x.a + sumG ns) + _
    omega
/-- only the gaps of two step lists and where they are quiet count -/
theorem grp_mid {n1 n2 ys : List S3} (h1 : ∀ x ∈ n1, x.c = false) (h2 : ∀ x ∈ n2, x.c = false) (hs : sumG n1 = sumG n2) : ∀ xs : List S3, (grpP (xs ++ (n1 ++ ys))).1.1 = (grpP (xs ++ (n2 ++ ys))).1.1 ∧ (grpP (xs ++ (n1 ++ ys))).2.map (fun p => p.1) = (grpP (xs ++ (n2 ++ ys))).2.map (fun p => p.1)
  | [] => by
    obtain ⟨a1, a2⟩ := grp_loud (ys := ys) h1
    obtain ⟨b1, b2⟩ := grp_loud (ys := ys) h2
    show (grpP (n1 ++ ys)).1.1 = (grpP (n2 ++ ys)).1.1 ∧ (grpP (n1 ++ ys)).2.map _ = (grpP (n2 ++ ys)).2.map _
    rw [a1, b1, a2, b2, hs]
    exact ⟨rfl, rfl⟩
  | x :: xs => by
    obtain ⟨a, b⟩ := grp_mid h1 h2 hs xs
    rw [List.cons_append, List.cons_append, grpP_cons, grpP_cons]
    unfold stP
    split
    · refine ⟨rfl, ?_⟩
      rw [List.map_cons, List.map_cons, b, a]
    · exact ⟨by show x.a + _ = x.a + _; rw [a], b⟩
theorem sumG_app (a b : List S3) : sumG (a ++ b) = sumG a + sumG b := by unfold sumG; rw [List.map_append, List.sum_append]
theorem sumG_rep (a : List S3) (n : Nat) : sumG (List.replicate n a).flatten = sumG a * (n : Int) := by
  induction n with
  | zero => show (0 : Int) = _; rw [Int.natCast_zero, Int.mul_zero]
  | succ n ih => rw [List.replicate_succ, List.flatten_cons, sumG_app, ih, Int.natCast_succ, Int.mul_add, Int.mul_one, Int.add_comm]
/-! ### what a train means -/
def gaps (t : Tr) : List Int := t.head ++ ((List.replicate t.rounds t.block).flatten ++ t.fin)
theorem sel0 : (fun x : P2 => sel 0 x) = fun x => x.1 := rfl
theorem places_nil {xs : List S3} (h : places xs = []) : ∀ x ∈ xs, x.c = false := by
  intro x hx
  cases hc : x.c with
  | false => rfl
  | true =>
    obtain ⟨i, hi, e⟩ := List.mem_iff_getElem.mp hx
    have : i ∈ places xs := List.mem_map.mpr ⟨(x, i), List.mem_filter.mpr ⟨by rw [List.mem_zipIdx_iff_getElem?]; rw [← e]; exact List.getElem?_eq_getElem hi, hc⟩, rfl⟩
    rw [h] at this
    cases this
theorem places_quiet {xs : List S3} (h : places xs ≠ []) : (places xs).getD 0 0 < xs.length ∧ ∃ x, xs[(places xs).getD 0 0]? = some x ∧ x.c = true := by
  have hp : 0 < (places xs).length := List.length_pos_iff.mpr h
  have hm := getD_mem (xs := places xs) 0 hp
  obtain ⟨⟨x, i⟩, hq, e⟩ := List.mem_map.mp hm
  obtain ⟨h1, h2⟩ := List.mem_filter.mp hq
  have h3 := List.mem_zipIdx_iff_getElem?.mp h1
  have e : i = (places xs).getD 0 0 := e
  rw [← e]
  refine ⟨?_, x, h3, h2⟩
  rcases Nat.lt_or_ge i xs.length with c | c
  · exact c
  · rw [List.getElem?_eq_none c] at h3; cases h3
theorem rep_shift {α : Type} (u v : List α) : ∀ n : Nat, (List.replicate (n + 1) (u ++ v)).flatten = u ++ ((List.replicate n (v ++ u)).flatten ++ v)
  | 0 => by simp
  | n + 1 => by
    rw [List.replicate_succ, List.flatten_cons, rep_shift u v n, List.replicate_succ, List.flatten_cons]
    simp only [List.append_assoc]
theorem rep_nil {α : Type} (n : Nat) : (List.replicate n ([] : List α)).flatten = [] := by
  induction n with
  | zero => rfl
  | succ n ih => rw [List.replicate_succ, List.flatten_cons, ih]; rfl
theorem marks_nil {q : Int} {gs : List Int} (h : marks q gs = []) : gs = [] := List.map_eq_nil_iff.mp h
/-- the steps of a cut, laid out -/
theorem cut_last (q : Int) (t : Tr) :
    (lastS q t).1 = t.first + (grp q (gaps t)).1 ∧ gaps (lastT q t 0) = (grp q (gaps t)).2 := by
  have key : ∀ c : Cu, cutM q t 0 = c → (grpP c.row).1 = (0, 0) → (grpP c.rest).1 = (0, 0) → (grpP (c.ahead ++ ((List.replicate c.rounds c.row).flatten ++ c.rest))).1.1 = (grpP (marks q (gaps t))).1.1 →
      (grpP (c.ahead ++ ((List.replicate c.rounds c.row).flatten ++ c.rest))).2.map (fun p => p.1) = (grpP (marks q (gaps t))).2.map (fun p => p.1) → (lastS q t).1 = t.first + (grp q (gaps t)).1 ∧ gaps (lastT q t 0) = (grp q (gaps t)).2 := by
    intro c hc h1 h2 h3 h4
    have hr := grp_rep h1 h2 c.rounds
    have hcat := grp_cat (ys := (List.replicate c.rounds c.row).flatten ++ c.rest) (by rw [hr]) c.ahead
    rw [hcat, hr] at h3 h4
    have hm := grp_marks q (gaps t)
    have hl := lead_grp c.ahead
    constructor
    · show t.first + sumG (lead (cutM q t 0).ahead) = _
      rw [hc, ← hm, show sumG (lead c.ahead) = (grpP c.ahead).1.1 from congrArg (fun p : P2 => p.1) hl, h3]
    · rw [← hm]
      show (jb (cutM q t 0).ahead).map (sel 0) ++ ((List.replicate (cutM q t 0).rounds ((jb (cutM q t 0).row).map (sel 0))).flatten ++ (jb (cutM q t 0).rest).map (sel 0)) = _
      rw [hc, jb_grp, jb_grp, jb_grp, ← h4]
      show List.map (fun p : P2 => p.1) _ ++ ((List.replicate _ (List.map (fun p : P2 => p.1) _)).flatten ++ List.map (fun p : P2 => p.1) _) = _
      rw [List.map_append, List.map_append, List.map_flatten, List.map_replicate]
  by_cases h0 : t.rounds = 0 ∨ marks q t.block = []
  · refine key ⟨marks q t.head ++ marks q t.fin, [], 0, []⟩ (by unfold cutM; rw [if_pos h0]) rfl rfl ?_ ?_
    all_goals
      have hg : gaps t = t.head ++ t.fin := by
        unfold gaps
        rcases h0 with h0 | h0
        · rw [h0]; rfl
        · rw [marks_nil h0, rep_nil]; rfl
      rw [hg, marks_app]
      show _ = _
      simp
  · by_cases hp : places (marks q t.block) = []
    · have hq := places_nil hp
      have hn2 : ∀ x ∈ (List.replicate t.rounds (marks q t.block)).flatten, x.c = false := fun x hx => by
        obtain ⟨l, hl, hxl⟩ := List.mem_flatten.mp hx
        rw [(List.mem_replicate.mp hl).2] at hxl
        exact hq x hxl
      have hmid := grp_mid (n1 := [⟨sumG (marks q t.block) * (t.rounds : Int), sumC (marks q t.block) * (t.rounds : Int), false⟩]) (n2 := (List.replicate t.rounds (marks q t.block)).flatten) (ys := marks q t.fin)
        (fun x hx => by rw [List.mem_singleton.mp hx]) hn2 (by rw [sumG_rep]; show _ + 0 = _; rw [Int.add_zero]) (marks q t.head)
      have hg : marks q (gaps t) = marks q t.head ++ ((List.replicate t.rounds (marks q t.block)).flatten ++ marks q t.fin) := by unfold gaps; rw [marks_app, marks_app, marks_rep]
      refine key ⟨marks q t.head ++ [⟨sumG (marks q t.block) * (t.rounds : Int), sumC (marks q t.block) * (t.rounds : Int), false⟩] ++ marks q t.fin, [], 0, []⟩ (by unfold cutM; rw [if_neg h0, if_pos hp]) rfl rfl ?_ ?_
      · rw [hg, ← hmid.1]; simp
      · rw [hg, ← hmid.2]; simp
    · obtain ⟨hlt, x, hx, hxc⟩ := places_quiet hp
      have hqs : ∀ zs : List S3, Qs0 ((marks q t.block).drop ((places (marks q t.block)).getD 0 0) ++ zs) := fun zs y hy => by
        rw [List.head?_append, List.head?_drop, hx] at hy
        cases hy
        exact hxc
      have hrn : t.rounds = (t.rounds - 1) + 1 := by have : t.rounds ≠ 0 := fun e => h0 (.inl e); omega
      have hg : marks q (gaps t) = (marks q t.head ++ (marks q t.block).take ((places (marks q t.block)).getD 0 0)) ++ ((List.replicate (t.rounds - 1) ((marks q t.block).drop ((places (marks q t.block)).getD 0 0) ++ (marks q t.block).take ((places (marks q t.block)).getD 0 0))).flatten ++ ((marks q t.block).drop ((places (marks q t.block)).getD 0 0) ++ marks q t.fin)) := by
        unfold gaps
        rw [marks_app, marks_app, marks_rep]
        conv => lhs; rw [hrn, ← List.take_append_drop ((places (marks q t.block)).getD 0 0) (marks q t.block)]
        rw [rep_shift]
        simp only [List.append_assoc, List.take_append_drop]
      refine key ⟨marks q t.head ++ (marks q t.block).take ((places (marks q t.block)).getD 0 0 + 0), (marks q t.block).drop ((places (marks q t.block)).getD 0 0 + 0) ++ (marks q t.block).take ((places (marks q t.block)).getD 0 0 + 0), t.rounds - 1, (marks q t.block).drop ((places (marks q t.block)).getD 0 0 + 0) ++ marks q t.fin⟩ (by unfold cutM; rw [if_neg h0, if_neg hp]) (qs0_grp (hqs _)) (qs0_grp (hqs _)) ?_ ?_
      · rw [hg]; rfl
      · rw [hg]; rfl

/-! #### ME -/
/-! ### groups that end at a quiet gap -/
def jaR : P2 → List S3 → List P2
  | _, [] => []
  | acc, x :: xs => if x.c then (acc.1 + x.a, acc.2 + x.b) :: jaR (0, 0) xs else jaR (acc.1 + x.a, acc.2 + x.b) xs
def remR : P2 → List S3 → P2
  | acc, [] => acc
  | acc, x :: xs => if x.c then remR (0, 0) xs else remR (acc.1 + x.a, acc.2 + x.b) xs
theorem sumG_snoc (s : List S3) (x : S3) : sumG (s ++ [x]) = sumG s + x.a := by rw [sumG_app]; show _ + (x.a + 0) = _; rw [Int.add_zero]
theorem sumC_snoc (s : List S3) (x : S3) : sumC (s ++ [x]) = sumC s + x.b := by unfold sumC; rw [List.map_append, List.sum_append]; show _ + (x.b + 0) = _; rw [Int.add_zero]
theorem ja_fold : ∀ (xs : List S3) (f : List P2) (s : List S3), (xs.foldl jaStep ⟨f, s⟩).f = f ++ jaR (sumG s, sumC s) xs
  | [], f, s => by show f = f ++ []; rw [List.append_nil]
  | x :: xs, f, s => by
    rw [List.foldl_cons]
    show (xs.foldl jaStep (jaStep ⟨f, s⟩ x)).f = f ++ (if x.c then (sumG s + x.a, sumC s + x.b) :: jaR (0, 0) xs else jaR (sumG s + x.a, sumC s + x.b) xs)
    by_cases hc : x.c = true
    · have e : jaStep ⟨f, s⟩ x = ⟨f ++ [(sumG (s ++ [x]), sumC (s ++ [x]))], []⟩ := by unfold jaStep; rw [if_pos hc]
      rw [e, if_pos hc, ja_fold xs, sumG_snoc, sumC_snoc, List.append_assoc]; rfl
    · have e : jaStep ⟨f, s⟩ x = ⟨f, s ++ [x]⟩ := by unfold jaStep; rw [if_neg hc]
      rw [e, if_neg hc, ja_fold xs, sumG_snoc, sumC_snoc]
theorem ja_R (xs : List S3) : ja xs = jaR (0, 0) xs := by
  have := ja_fold xs [] []
  exact this
theorem jaR_app : ∀ (xs ys : List S3) (acc : P2), jaR acc (xs ++ ys) = jaR acc xs ++ jaR (remR acc xs) ys
  | [], ys, acc => rfl
  | x :: xs, ys, acc => by
    show (if x.c then (acc.1 + x.a, acc.2 + x.b) :: jaR (0, 0) (xs ++ ys) else jaR (acc.1 + x.a, acc.2 + x.b) (xs ++ ys)) = (if x.c then (acc.1 + x.a, acc.2 + x.b) :: jaR (0, 0) xs else jaR (acc.1 + x.a, acc.2 + x.b) xs) ++ jaR (if x.c then remR (0, 0) xs else remR (acc.1 + x.a, acc.2 + x.b) xs) ys
    by_cases hc : x.c = true
    · rw [if_pos hc, if_pos hc, if_pos hc, jaR_app xs ys]; rfl
    · rw [if_neg hc, if_neg hc, if_neg hc, jaR_app xs ys]
theorem remR_end (x : S3) (hc : x.c = true) : ∀ (xs : List S3) (acc : P2), remR acc (xs ++ [x]) = (0, 0)
  | [], acc => by show (if x.c then ((0, 0) : P2) else _) = _; rw [if_pos hc]
  | y :: xs, acc => by
    show (if y.c then remR (0, 0) (xs ++ [x]) else remR (acc.1 + y.a, acc.2 + y.b) (xs ++ [x])) = _
    split
    · exact remR_end x hc xs _
    · exact remR_end x hc xs _
theorem jaR_rep {ys zs : List S3} (h : remR (0, 0) ys = (0, 0)) : ∀ n : Nat, jaR (0, 0) ((List.replicate n ys).flatten ++ zs) = (List.replicate n (jaR (0, 0) ys)).flatten ++ jaR (0, 0) zs
  | 0 => rfl
  | n + 1 => by rw [List.replicate_succ, List.flatten_cons, List.append_assoc, jaR_app, h, jaR_rep h n, List.replicate_succ, List.flatten_cons, List.append_assoc]
/-- the gaps alone -/
def jaA : Int → List S3 → List Int
  | _, [] => []
  | acc, x :: xs => if x.c then (acc + x.a) :: jaA 0 xs else jaA (acc + x.a) xs
def remA : Int → List S3 → Int
  | acc, [] => acc
  | acc, x :: xs => if x.c then remA 0 xs else remA (acc + x.a) xs
theorem jaR_fst : ∀ (xs : List S3) (acc : P2), (jaR acc xs).map (fun p => p.1) = jaA acc.1 xs
  | [], _ => rfl
  | x :: xs, acc => by
    show List.map _ (if x.c then (acc.1 + x.a, acc.2 + x.b) :: jaR (0, 0) xs else jaR (acc.1 + x.a, acc.2 + x.b) xs) = (if x.c then (acc.1 + x.a) :: jaA 0 xs else jaA (acc.1 + x.a) xs)
    split
    · rw [List.map_cons, jaR_fst xs]
    · rw [jaR_fst xs]
theorem jaA_app : ∀ (xs ys : List S3) (acc : Int), jaA acc (xs ++ ys) = jaA acc xs ++ jaA (remA acc xs) ys
  | [], ys, acc => rfl
  | x :: xs, ys, acc => by
    show (if x.c then (acc + x.a) :: jaA 0 (xs ++ ys) else jaA (acc + x.a) (xs ++ ys)) = (if x.c then (acc + x.a) :: jaA 0 xs else jaA (acc + x.a) xs) ++ jaA (if x.c then remA 0 xs else remA (acc + x.a) xs) ys
    by_cases hc : x.c = true
    · rw [if_pos hc, if_pos hc, if_pos hc, jaA_app xs ys]; rfl
    · rw [if_neg hc, if_neg hc, if_neg hc, jaA_app xs ys]
theorem jaA_loud {ys : List S3} : ∀ {ns : List S3}, (∀ x ∈ ns, x.c = false) → ∀ acc, jaA acc (ns ++ ys) = jaA (acc + sumG ns) ys
  | [], _, acc => by show jaA acc ys = jaA (acc + 0) ys; rw [Int.add_zero]
  | x :: ns, h, acc => by
    have hc := h x (List.mem_cons_self ..)
    show (if x.c then (acc + x.a) :: jaA 0 (ns ++ ys) else jaA (acc + x.a) (ns ++ ys)) = _
    rw [hc, if_neg Bool.false_ne_true, jaA_loud fun y hy => h y (List.mem_cons_of_mem _ hy)]
    show _ = jaA (acc + (x.a + sumG ns)) ys
    rw [Int.add_assoc]
theorem jaA_grp (q : Int) (gs : List Int) : jaA 0 (marks q gs) = (grp q gs.reverse).2.reverse := by
  have key : ∀ (gs : List Int) (l : Int) (os : List Int), (gs.foldl (fun (p : Int × List Int) g => if q ≤ g then (0, (g + p.1) :: p.2) else (g + p.1, p.2)) (l, os)).2 = (jaA l (marks q gs)).reverse ++ os := by
    intro gs
    induction gs with
    | nil => intro l os; rfl
    | cons g gs ih =>
      intro l os
      rw [List.foldl_cons]
      show (gs.foldl _ (if q ≤ g then (0, (g + l) :: os) else (g + l, os))).2 = (if decide (q ≤ g) then (l + g) :: jaA 0 (marks q gs) else jaA (l + g) (marks q gs)).reverse ++ os
      by_cases h : q ≤ g
      · rw [if_pos h, if_pos (decide_eq_true h), ih, List.reverse_cons, List.append_assoc, Int.add_comm g l]; rfl
      · rw [if_neg h, if_neg (by rw [decide_eq_true_eq]; exact h), ih, Int.add_comm g l]
  unfold grp
  rw [List.foldr_reverse, key gs 0 [], List.append_nil, List.reverse_reverse]
theorem cut_first (q : Int) (t : Tr) : gaps (firstT q t 0) = (grp q (gaps t).reverse).2.reverse := by
  have key : ∀ c : Cu, cutM q t 1 = c → (remR (0, 0) c.ahead = (0, 0) ∨ (c.rounds = 0 ∧ c.rest = [])) → remR (0, 0) c.row = (0, 0) →
      jaA 0 (c.ahead ++ ((List.replicate c.rounds c.row).flatten ++ c.rest)) = jaA 0 (marks q (gaps t)) → gaps (firstT q t 0) = (grp q (gaps t).reverse).2.reverse := by
    intro c hc h1 h2 h3
    rw [← jaA_grp, ← h3]
    have e := jaR_fst (c.ahead ++ ((List.replicate c.rounds c.row).flatten ++ c.rest)) (0, 0)
    rw [← e]
    show (ja (cutM q t 1).ahead).map (sel 0) ++ ((List.replicate (cutM q t 1).rounds ((ja (cutM q t 1).row).map (sel 0))).flatten ++ (ja (cutM q t 1).rest).map (sel 0)) = _
    rw [hc, ja_R, ja_R, ja_R]
    show List.map (fun p : P2 => p.1) _ ++ ((List.replicate _ (List.map (fun p : P2 => p.1) _)).flatten ++ List.map (fun p : P2 => p.1) _) = _
    rw [← List.map_replicate, ← List.map_flatten, ← List.map_append, ← List.map_append]
    rcases h1 with h1 | ⟨h1, h1'⟩
    · rw [jaR_app, h1, jaR_rep h2]
    · rw [h1, h1']; simp [jaR]
  by_cases h0 : t.rounds = 0 ∨ marks q t.block = []
  · refine key ⟨marks q t.head ++ marks q t.fin, [], 0, []⟩ (by unfold cutM; rw [if_pos h0]) (.inr ⟨rfl, rfl⟩) rfl ?_
    have hg : gaps t = t.head ++ t.fin := by
      unfold gaps
      rcases h0 with h0 | h0
      · rw [h0]; rfl
      · rw [marks_nil h0, rep_nil]; rfl
    rw [hg, marks_app]
    simp
  · by_cases hp : places (marks q t.block) = []
    · have hq := places_nil hp
      have hn2 : ∀ x ∈ (List.replicate t.rounds (marks q t.block)).flatten, x.c = false := fun x hx => by
        obtain ⟨l, hl, hxl⟩ := List.mem_flatten.mp hx
        rw [(List.mem_replicate.mp hl).2] at hxl
        exact hq x hxl
      have hg : marks q (gaps t) = marks q t.head ++ ((List.replicate t.rounds (marks q t.block)).flatten ++ marks q t.fin) := by unfold gaps; rw [marks_app, marks_app, marks_rep]
      refine key ⟨marks q t.head ++ [⟨sumG (marks q t.block) * (t.rounds : Int), sumC (marks q t.block) * (t.rounds : Int), false⟩] ++ marks q t.fin, [], 0, []⟩ (by unfold cutM; rw [if_neg h0, if_pos hp]) (.inr ⟨rfl, rfl⟩) rfl ?_
      show jaA 0 ((marks q t.head ++ [_] ++ marks q t.fin) ++ ((List.replicate 0 []).flatten ++ [])) = _
      rw [hg, List.replicate_zero, List.flatten_nil, List.append_nil, List.append_nil, List.append_assoc, jaA_app, jaA_app (marks q t.head)]
      congr 1
      rw [jaA_loud (fun x hx => by rw [List.mem_singleton.mp hx]), jaA_loud hn2, sumG_rep]
      show jaA (_ + (_ + 0)) _ = _
      rw [Int.add_zero]
    · obtain ⟨hlt, x, hx, hxc⟩ := places_quiet hp
      have hrn : t.rounds = (t.rounds - 1) + 1 := by have : t.rounds ≠ 0 := fun e => h0 (.inl e); omega
      have htk : (marks q t.block).take ((places (marks q t.block)).getD 0 0 + 1) = (marks q t.block).take ((places (marks q t.block)).getD 0 0) ++ [x] := by rw [List.take_succ, hx]; rfl
      have hend : ∀ zs : List S3, remR (0, 0) (zs ++ (marks q t.block).take ((places (marks q t.block)).getD 0 0 + 1)) = (0, 0) := fun zs => by rw [htk, ← List.append_assoc]; exact remR_end x hxc _ _
      have hg : marks q (gaps t) = (marks q t.head ++ (marks q t.block).take ((places (marks q t.block)).getD 0 0 + 1)) ++ ((List.replicate (t.rounds - 1) ((marks q t.block).drop ((places (marks q t.block)).getD 0 0 + 1) ++ (marks q t.block).take ((places (marks q t.block)).getD 0 0 + 1))).flatten ++ ((marks q t.block).drop ((places (marks q t.block)).getD 0 0 + 1) ++ marks q t.fin)) := by
        unfold gaps
        rw [marks_app, marks_app, marks_rep]
        conv => lhs; rw [hrn, ← List.take_append_drop ((places (marks q t.block)).getD 0 0 + 1) (marks q t.block)]
        rw [rep_shift]
        simp only [List.append_assoc, List.take_append_drop]
      refine key ⟨marks q t.head ++ (marks q t.block).take ((places (marks q t.block)).getD 0 0 + 1), (marks q t.block).drop ((places (marks q t.block)).getD 0 0 + 1) ++ (marks q t.block).take ((places (marks q t.block)).getD 0 0 + 1), t.rounds - 1, (marks q t.block).drop ((places (marks q t.block)).getD 0 0 + 1) ++ marks q t.fin⟩ (by unfold cutM; rw [if_neg h0, if_neg hp]) (.inl (hend _)) (hend _) ?_
      rw [hg]
/-! ### a train's meaning, and its mirror -/
abbrev Sem' := Int × List Int
def sem (t : Tr) : Sem' := (t.first, gaps t)
def mir (x : Sem') : Sem' := (0 - (x.1 + x.2.sum), x.2.reverse)
def memS (m : Mb) (x : Sem') : Sem' :=
  match m.k with
  | .last => (x.1 + (grp m.q x.2).1, (grp m.q x.2).2)
  | .first => (x.1, (grp m.q x.2.reverse).2.reverse)
  | _ => x
theorem sem_mem (m : Mb) (t : Tr) : sem (memT m t 0) = memS m (sem t) := by
  obtain ⟨k, q⟩ := m
  cases k with
  | last =>
    obtain ⟨h1, h2⟩ := cut_last q t
    exact Prod.ext h1 h2
  | first => exact Prod.ext rfl (cut_first q t)
  | limit => rfl
  | delay => rfl
theorem sum_reverse (gs : List Int) : gs.reverse.sum = gs.sum := by
  induction gs with
  | nil => rfl
  | cons g gs ih => rw [List.reverse_cons, List.sum_append, ih, List.sum_cons, List.sum_cons, List.sum_nil]; omega
theorem mem_mir (m : Mb) (x : Sem') : memS m.turn (mir x) = mir (memS m x) := by
  obtain ⟨k, q⟩ := m
  obtain ⟨f, G⟩ := x
  cases k with
  | limit => rfl
  | delay => rfl
  | last =>
    have hs := grp_sum q G
    show (0 - (f + G.sum), (grp q G.reverse.reverse).2.reverse) = (0 - (f + (grp q G).1 + (grp q G).2.sum), (grp q G).2.reverse)
    rw [List.reverse_reverse]
    refine Prod.ext ?_ rfl
    show 0 - (f + G.sum) = 0 - (f + (grp q G).1 + (grp q G).2.sum)
    omega
  | first =>
    have hs := grp_sum q G.reverse
    rw [sum_reverse] at hs
    show (0 - (f + G.sum) + (grp q G.reverse).1, (grp q G.reverse).2) = (0 - (f + (grp q G.reverse).2.reverse.sum), (grp q G.reverse).2.reverse.reverse)
    rw [List.reverse_reverse, sum_reverse]
    refine Prod.ext ?_ rfl
    show 0 - (f + G.sum) + (grp q G.reverse).1 = 0 - (f + (grp q G.reverse).2.sum)
    omega
theorem fold_sem (ms : List Mb) : ∀ t : Tr, sem (foldT ms t) = ms.foldl (fun x m => memS m x) (sem t) := by
  induction ms with
  | nil => intro t; rfl
  | cons m ms ih =>
    intro t
    show sem (foldT ms (memT m t 0)) = ms.foldl (fun x m => memS m x) (memS m (sem t))
    rw [ih, sem_mem]
theorem fold_mir (ms : List Mb) : ∀ x : Sem', (turnMs ms).foldl (fun x m => memS m x) (mir x) = mir (ms.foldl (fun x m => memS m x) x) := by
  induction ms with
  | nil => intro x; rfl
  | cons m ms ih =>
    intro x
    show (turnMs ms).foldl (fun x m => memS m x) (memS m.turn (mir x)) = _
    rw [mem_mir, ih]; rfl
/-- the train turned round -/
def turnT (t : Tr) : Tr := ⟨0 - (t.first + (gaps t).sum), t.fin.reverse, t.block.reverse, t.rounds, t.head.reverse⟩
theorem rep_reverse {α : Type} (l : List α) (n : Nat) : (List.replicate n l.reverse).flatten = ((List.replicate n l).flatten).reverse := by
  rw [List.reverse_flatten, List.map_replicate, List.reverse_replicate]
theorem sem_turn (t : Tr) : sem (turnT t) = mir (sem t) := by
  refine Prod.ext rfl ?_
  show t.fin.reverse ++ ((List.replicate t.rounds t.block.reverse).flatten ++ t.head.reverse) = (gaps t).reverse
  unfold gaps
  rw [List.reverse_append, List.reverse_append, rep_reverse, List.append_assoc]
theorem told_mir (ms : List Mb) (t : Tr) : sem (foldT (turnMs ms) (turnT t)) = mir (sem (foldT ms t)) := by
  rw [fold_sem, sem_turn, fold_mir, fold_sem]
/-! ### times by number -/
theorem cnt_gaps (t : Tr) : cntOf t = (gaps t).length + 1 := by
  unfold cntOf gaps
  rw [List.length_append, List.length_append, List.length_flatten, List.map_replicate, List.sum_replicate_nat, Nat.mul_comm]
  omega
theorem sum_rep (gs : List Int) (n : Nat) : ((List.replicate n gs).flatten).sum = gs.sum * (n : Int) := by
  induction n with
  | zero => show (0 : Int) = _; rw [Int.natCast_zero, Int.mul_zero]
  | succ n ih => rw [List.replicate_succ, List.flatten_cons, List.sum_append, ih, Int.natCast_succ, Int.mul_add, Int.mul_one, Int.add_comm]
theorem take_rep (gs : List Int) (hg : 0 < gs.length) : ∀ (n k : Nat), k < gs.length * n → (((List.replicate n gs).flatten).take k).sum = ((k / gs.length : Nat) : Int) * gs.sum + (gs.take (k % gs.length)).sum
  | 0, k, h => by omega
  | n + 1, k, h => by
    rw [List.replicate_succ, List.flatten_cons, List.take_append]
    rcases Nat.lt_or_ge k gs.length with c | c
    · rw [Nat.sub_eq_zero_of_le (Nat.le_of_lt c), List.take_zero, List.append_nil, Nat.div_eq_of_lt c, Nat.mod_eq_of_lt c]
      simp
    · rw [List.take_of_length_le c, List.sum_append, take_rep gs hg n (k - gs.length) (by rw [Nat.mul_succ] at h; omega)]
      have e1 : k / gs.length = (k - gs.length) / gs.length + 1 := by
        conv => lhs; rw [show k = (k - gs.length) + gs.length by omega]
        rw [Nat.add_div_right _ hg]
      have e2 : k % gs.length = (k - gs.length) % gs.length := by
        conv => lhs; rw [show k = (k - gs.length) + gs.length by omega]
        rw [Nat.add_mod_right]
      rw [e1, e2, Int.natCast_succ, Int.add_mul, Int.one_mul]
      omega
theorem timeAt_gaps (t : Tr) {n : Nat} (h : n < cntOf t) : timeAt t n = t.first + ((gaps t).take n).sum := by
  have hl : ((List.replicate t.rounds t.block).flatten).length = t.block.length * t.rounds := by
    rw [List.length_flatten, List.map_replicate, List.sum_replicate_nat, Nat.mul_comm]
  unfold timeAt gaps
  rw [List.take_append]
  by_cases h1 : n ≤ t.head.length
  · rw [if_pos h1, Nat.sub_eq_zero_of_le h1, List.take_zero, List.append_nil]
  rw [if_neg h1, List.take_of_length_le (by omega : t.head.length ≤ n), List.sum_append, List.take_append, hl, List.sum_append]
  by_cases h2 : t.head.length + t.block.length * t.rounds ≤ n
  · rw [if_pos h2, show ((List.replicate t.rounds t.block).flatten).take (n - t.head.length) = (List.replicate t.rounds t.block).flatten from List.take_of_length_le (by rw [hl]; omega), sum_rep, show n - t.head.length - t.block.length * t.rounds = n - (t.head.length + t.block.length * t.rounds) by omega]
    omega
  · rw [if_neg h2, Nat.sub_eq_zero_of_le (by omega : n - t.head.length ≤ t.block.length * t.rounds), List.take_zero, List.sum_nil]
    have hb : 0 < t.block.length := by
      rcases Nat.eq_zero_or_pos t.block.length with e | e
      · rw [e, Nat.zero_mul] at h2; omega
      · exact e
    rw [take_rep t.block hb _ _ (by omega)]
    omega
theorem cnt_told (ms : List Mb) (t : Tr) : cntOf (toldT (turnMs ms) (turnT t)) = cntOf (toldT ms t) := by
  have h := congrArg (fun x : Sem' => x.2.length) (told_mir ms t)
  have h : (gaps (foldT (turnMs ms) (turnT t))).length = (gaps (foldT ms t)).reverse.length := h
  rw [List.length_reverse] at h
  show cntOf (foldT (turnMs ms) (turnT t)) = cntOf (foldT ms t)
  rw [cnt_gaps, cnt_gaps, h]
theorem times_told (ms : List Mb) (t : Tr) {p : Nat} (h : p < cntOf (toldT ms t)) :
    timeAt (toldT ms t) p - late ms = late (turnMs ms) - timeAt (toldT (turnMs ms) (turnT t)) (cntOf (toldT ms t) - 1 - p) := by
  have hc := cnt_told ms t
  rw [timeAt_gaps _ h, timeAt_gaps _ (by omega)]
  have hm := told_mir ms t
  have h1 : (foldT (turnMs ms) (turnT t)).first = 0 - ((foldT ms t).first + (gaps (foldT ms t)).sum) := congrArg (fun x : Sem' => x.1) hm
  have h2 : gaps (foldT (turnMs ms) (turnT t)) = (gaps (foldT ms t)).reverse := congrArg (fun x : Sem' => x.2) hm
  have hcnt : cntOf (toldT ms t) = (gaps (foldT ms t)).length + 1 := cnt_gaps (foldT ms t)
  show (foldT ms t).first + late ms + ((gaps (foldT ms t)).take p).sum - late ms = late (turnMs ms) - ((foldT (turnMs ms) (turnT t)).first + late (turnMs ms) + ((gaps (foldT (turnMs ms) (turnT t))).take (cntOf (toldT ms t) - 1 - p)).sum)
  rw [h1, h2, hcnt, Nat.add_sub_cancel]
  have e : ((gaps (foldT ms t)).reverse.take ((gaps (foldT ms t)).length - p)).sum = ((gaps (foldT ms t)).drop p).sum := by
    rw [← List.reverse_drop, sum_reverse]
  rw [e]
  have e2 : (gaps (foldT ms t)).sum = ((gaps (foldT ms t)).take p).sum + ((gaps (foldT ms t)).drop p).sum := by
    rw [← List.sum_append, List.take_append_drop]
  omega

/-! #### MF -/
/-! ### trains stay small -/
def Good (N : Nat) (t : Tr) : Prop := Pos1 t.head ∧ Pos1 t.block ∧ Pos1 t.fin ∧ t.head.length + t.fin.length ≤ N ∧ t.block.length ≤ 3 ∧ t.block.sum ≤ 100
theorem Good.ok {N : Nat} {t : Tr} (h : Good N t) (hN : N ≤ 1000) : TrOk t := by
  obtain ⟨a, b, c, d, e, f⟩ := h
  refine ⟨a, b, c, by omega, by omega, by omega, by omega⟩
def PosS (xs : List S3) : Prop := ∀ x ∈ xs, 1 ≤ x.a ∧ 1 ≤ x.b
def PosP (xs : List P2) : Prop := ∀ x ∈ xs, 1 ≤ x.1 ∧ 1 ≤ x.2
theorem grpP_pos : ∀ {xs : List S3}, PosS xs → (0 ≤ (grpP xs).1.1 ∧ 0 ≤ (grpP xs).1.2) ∧ PosP (grpP xs).2
  | [], _ => ⟨⟨Int.le_refl _, Int.le_refl _⟩, fun x hx => nomatch hx⟩
  | x :: xs, h => by
    obtain ⟨⟨h1, h2⟩, h3⟩ := grpP_pos (xs := xs) fun y hy => h y (List.mem_cons_of_mem _ hy)
    obtain ⟨a1, a2⟩ := h x (List.mem_cons_self ..)
    rw [grpP_cons]
    unfold stP
    split
    · refine ⟨⟨Int.le_refl _, Int.le_refl _⟩, fun y hy => ?_⟩
      rcases List.mem_cons.mp hy with rfl | hy
      · exact ⟨by show 1 ≤ x.a + _; omega, by show 1 ≤ x.b + _; omega⟩
      · exact h3 y hy
    · exact ⟨⟨by show 0 ≤ x.a + _; omega, by show 0 ≤ x.b + _; omega⟩, h3⟩
theorem jaR_pos : ∀ {xs : List S3} {acc : P2}, PosS xs → 0 ≤ acc.1 → 0 ≤ acc.2 → PosP (jaR acc xs)
  | [], _, _, _, _ => fun x hx => nomatch hx
  | x :: xs, acc, h, h1, h2 => by
    have ht : PosS xs := fun y hy => h y (List.mem_cons_of_mem _ hy)
    obtain ⟨a1, a2⟩ := h x (List.mem_cons_self ..)
    show PosP (if x.c then (acc.1 + x.a, acc.2 + x.b) :: jaR (0, 0) xs else jaR (acc.1 + x.a, acc.2 + x.b) xs)
    split
    · intro y hy
      rcases List.mem_cons.mp hy with rfl | hy
      · exact ⟨by show 1 ≤ acc.1 + x.a; omega, by show 1 ≤ acc.2 + x.b; omega⟩
      · exact jaR_pos ht (Int.le_refl _) (Int.le_refl _) y hy
    · exact jaR_pos ht (by show 0 ≤ acc.1 + x.a; omega) (by show 0 ≤ acc.2 + x.b; omega)
theorem sumG_cons (x : S3) (xs : List S3) : sumG (x :: xs) = x.a + sumG xs := rfl
theorem sumC_cons (x : S3) (xs : List S3) : sumC (x :: xs) = x.b + sumC xs := rfl
theorem grpP_sum : ∀ xs : List S3, (grpP xs).1.1 + ((grpP xs).2.map fun p => p.1).sum = sumG xs ∧ (grpP xs).1.2 + ((grpP xs).2.map fun p => p.2).sum = sumC xs
  | [] => ⟨rfl, rfl⟩
  | x :: xs => by
    obtain ⟨h1, h2⟩ := grpP_sum xs
    rw [grpP_cons, sumG_cons, sumC_cons]
    unfold stP
    split
    · simp only [List.map_cons, List.sum_cons]
      constructor <;> omega
    · constructor
      · show x.a + (grpP xs).1.1 + ((grpP xs).2.map fun p => p.1).sum = _; omega
      · show x.b + (grpP xs).1.2 + ((grpP xs).2.map fun p => p.2).sum = _; omega
theorem jaR_sum : ∀ {xs : List S3} {acc : P2}, PosS xs → 0 ≤ acc.1 → 0 ≤ acc.2 → ((jaR acc xs).map fun p => p.1).sum ≤ acc.1 + sumG xs ∧ ((jaR acc xs).map fun p => p.2).sum ≤ acc.2 + sumC xs
  | [], acc, _, h1, h2 => ⟨by show (0 : Int) ≤ acc.1 + 0; omega, by show (0 : Int) ≤ acc.2 + 0; omega⟩
  | x :: xs, acc, h, h1, h2 => by
    have ht : PosS xs := fun y hy => h y (List.mem_cons_of_mem _ hy)
    obtain ⟨a1, a2⟩ := h x (List.mem_cons_self ..)
    rw [sumG_cons, sumC_cons]
    show (List.map (fun p : P2 => p.1) (if x.c then (acc.1 + x.a, acc.2 + x.b) :: jaR (0, 0) xs else jaR (acc.1 + x.a, acc.2 + x.b) xs : List P2)).sum ≤ _ ∧ (List.map (fun p : P2 => p.2) (if x.c then (acc.1 + x.a, acc.2 + x.b) :: jaR (0, 0) xs else jaR (acc.1 + x.a, acc.2 + x.b) xs : List P2)).sum ≤ _
    split
    · obtain ⟨b1, b2⟩ := jaR_sum (acc := (0, 0)) ht (Int.le_refl _) (Int.le_refl _)
      rw [List.map_cons, List.sum_cons, List.map_cons, List.sum_cons]
      have b1 : (List.map (fun p : P2 => p.1) (jaR (0, 0) xs)).sum ≤ 0 + sumG xs := b1
      have b2 : (List.map (fun p : P2 => p.2) (jaR (0, 0) xs)).sum ≤ 0 + sumC xs := b2
      constructor
      · show acc.1 + x.a + _ ≤ _; omega
      · show acc.2 + x.b + _ ≤ _; omega
    · obtain ⟨b1, b2⟩ := jaR_sum (acc := (acc.1 + x.a, acc.2 + x.b)) ht (by show 0 ≤ acc.1 + x.a; omega) (by show 0 ≤ acc.2 + x.b; omega)
      simp only at b1 b2
      constructor <;> omega
theorem marks_pos {q : Int} {gs : List Int} (h : Pos1 gs) : PosS (marks q gs) := fun x hx => by
  obtain ⟨g, hg, rfl⟩ := List.mem_map.mp hx
  exact ⟨h g hg, Int.le_refl _⟩
theorem PosS.app {a b : List S3} (h : PosS a) (h2 : PosS b) : PosS (a ++ b) := fun x hx => (List.mem_append.mp hx).elim (h x) (h2 x)
theorem PosS.take {a : List S3} (h : PosS a) (n : Nat) : PosS (a.take n) := fun x hx => h x (List.mem_of_mem_take hx)
theorem PosS.drop {a : List S3} (h : PosS a) (n : Nat) : PosS (a.drop n) := fun x hx => h x (List.mem_of_mem_drop hx)
theorem sumC_app (a b : List S3) : sumC (a ++ b) = sumC a + sumC b := by unfold sumC; rw [List.map_append, List.sum_append]
theorem cut_good {N : Nat} {t : Tr} (h : Good N t) (q : Int) (more : Nat) : PosS (cutM q t more).ahead ∧ PosS (cutM q t more).row ∧ PosS (cutM q t more).rest ∧ (cutM q t more).ahead.length + (cutM q t more).rest.length ≤ N + 4 ∧ (cutM q t more).row.length ≤ 3 ∧
    sumG (cutM q t more).row ≤ 100 ∧ sumC (cutM q t more).row ≤ 3 := by
  obtain ⟨p1, p2, p3, l, lb, sb⟩ := h
  have m1 := marks_pos (q := q) p1
  have m2 := marks_pos (q := q) p2
  have m3 := marks_pos (q := q) p3
  have e1 := marks_len q t.head
  have e2 := marks_len q t.block
  have e3 := marks_len q t.fin
  have g := sumG_marks q t.block
  have c := sumC_marks q t.block
  have nil : PosS [] := fun x hx => nomatch hx
  have z1 : sumG [] = 0 := rfl
  have z2 : sumC [] = 0 := rfl
  by_cases h0 : t.rounds = 0 ∨ marks q t.block = []
  · have e : cutM q t more = ⟨marks q t.head ++ marks q t.fin, [], 0, []⟩ := by unfold cutM; rw [if_pos h0]
    rw [e]
    refine ⟨m1.app m3, nil, nil, by simp only [List.length_append, List.length_nil]; omega, by simp, by rw [z1]; decide, by rw [z2]; decide⟩
  · by_cases hp : places (marks q t.block) = []
    · have e : cutM q t more = ⟨marks q t.head ++ [⟨sumG (marks q t.block) * (t.rounds : Int), sumC (marks q t.block) * (t.rounds : Int), false⟩] ++ marks q t.fin, [], 0, []⟩ := by unfold cutM; rw [if_neg h0, if_pos hp]
      rw [e]
      have hr : 1 ≤ t.rounds := by have : t.rounds ≠ 0 := fun e => h0 (.inl e); omega
      have hbn : t.block ≠ [] := fun e => h0 (.inr (by rw [e]; rfl))
      have hs : 1 ≤ t.block.sum := by
        cases hb : t.block with
        | nil => exact absurd hb hbn
        | cons g gs =>
          rw [hb] at p2
          have := p2 g (List.mem_cons_self ..)
          have := sum_nn (gs := gs) fun x hx => p2 x (List.mem_cons_of_mem _ hx)
          rw [List.sum_cons]; omega
      have hlb : 1 ≤ t.block.length := List.length_pos_iff.mpr hbn
      have mul1 : ∀ {x y : Int}, 1 ≤ x → 1 ≤ y → 1 ≤ x * y := fun {x y} hx hy => by
        have := Int.mul_le_mul hx hy (by decide) (by omega)
        simpa using this
      refine ⟨(m1.app fun x hx => ?_).app m3, nil, nil, by simp only [List.length_append, List.length_nil, List.length_cons]; omega, by simp, by rw [z1]; decide, by rw [z2]; decide⟩
      rw [List.mem_singleton.mp hx]
      exact ⟨mul1 (by rw [g]; exact hs) (by omega), mul1 (by rw [c]; omega) (by omega)⟩
    · have e : cutM q t more = ⟨marks q t.head ++ (marks q t.block).take ((places (marks q t.block)).getD 0 0 + more), (marks q t.block).drop ((places (marks q t.block)).getD 0 0 + more) ++ (marks q t.block).take ((places (marks q t.block)).getD 0 0 + more), t.rounds - 1, (marks q t.block).drop ((places (marks q t.block)).getD 0 0 + more) ++ marks q t.fin⟩ := by unfold cutM; rw [if_neg h0, if_neg hp]
      rw [e]
      generalize (places (marks q t.block)).getD 0 0 + more = a
      have hg : sumG ((marks q t.block).drop a ++ (marks q t.block).take a) = sumG (marks q t.block) := by
        conv => rhs; rw [← List.take_append_drop a (marks q t.block)]
        rw [sumG_app, sumG_app]; omega
      have hc : sumC ((marks q t.block).drop a ++ (marks q t.block).take a) = sumC (marks q t.block) := by
        conv => rhs; rw [← List.take_append_drop a (marks q t.block)]
        rw [sumC_app, sumC_app]; omega
      refine ⟨m1.app (m2.take _), (m2.drop _).app (m2.take _), (m2.drop _).app m3, by simp only [List.length_append, List.length_take, List.length_drop]; omega, by simp only [List.length_append, List.length_take, List.length_drop]; omega, by rw [hg, g]; exact sb, by rw [hc, c]; omega⟩
theorem pos_sel {xs : List P2} (h : PosP xs) (i : Nat) : Pos1 (xs.map (sel i)) := fun g hg => by
  obtain ⟨x, hx, rfl⟩ := List.mem_map.mp hg
  unfold sel
  split
  · exact (h x hx).1
  · exact (h x hx).2
theorem sel_one : sel 1 = fun x : P2 => x.2 := rfl
theorem ja_len' (xs : List S3) : (ja xs).length ≤ xs.length := by have := ja_len xs; show (jaF xs).f.length ≤ _; omega
theorem mem_good {N : Nat} {t : Tr} (h : Good N t) (m : Mb) (hm : m.k ≠ .limit) : Good (N + 4) (memT m t 0) ∧ Good (N + 4) (memT m t 1) := by
  obtain ⟨k, q⟩ := m
  cases k with
  | limit => exact absurd rfl hm
  | delay =>
    obtain ⟨p1, p2, p3, l, lb, sb⟩ := h
    exact ⟨⟨p1, p2, p3, by show t.head.length + t.fin.length ≤ N + 4; omega, lb, sb⟩, ⟨pos0, pos1 (Int.le_refl _), pos0, Nat.zero_le _, by show 1 ≤ 3; omega, by show (1 : Int) ≤ 100; omega⟩⟩
  | last =>
    obtain ⟨a1, a2, a3, l, lr, sg, sc⟩ := cut_good h q 0
    have j1 := jb_len (cutM q t 0).ahead
    have j2 := jb_len (cutM q t 0).row
    have j3 := jb_len (cutM q t 0).rest
    have g1 := grpP_pos a1
    have g2 := grpP_pos a2
    have g3 := grpP_pos a3
    obtain ⟨s1, s2⟩ := grpP_sum (cutM q t 0).row
    have mk : ∀ i, i < 2 → Good (N + 4) (lastT q t i) := fun i hi => by
      refine ⟨?_, ?_, ?_, ?_, ?_, ?_⟩
      · show Pos1 ((jb (cutM q t 0).ahead).map (sel i)); rw [jb_grp]; exact pos_sel g1.2 i
      · show Pos1 ((jb (cutM q t 0).row).map (sel i)); rw [jb_grp]; exact pos_sel g2.2 i
      · show Pos1 ((jb (cutM q t 0).rest).map (sel i)); rw [jb_grp]; exact pos_sel g3.2 i
      · show ((jb (cutM q t 0).ahead).map (sel i)).length + ((jb (cutM q t 0).rest).map (sel i)).length ≤ _
        rw [List.length_map, List.length_map]; omega
      · show ((jb (cutM q t 0).row).map (sel i)).length ≤ 3
        rw [List.length_map]; omega
      · show ((jb (cutM q t 0).row).map (sel i)).sum ≤ 100
        rw [jb_grp]
        rcases (by omega : i = 0 ∨ i = 1) with rfl | rfl
        · show ((grpP (cutM q t 0).row).2.map fun p => p.1).sum ≤ 100; have := g2.1.1; omega
        · show ((grpP (cutM q t 0).row).2.map fun p => p.2).sum ≤ 100; have := g2.1.2; omega
    exact ⟨mk 0 (by decide), mk 1 (by decide)⟩
  | first =>
    obtain ⟨a1, a2, a3, l, lr, sg, sc⟩ := cut_good h q 1
    have j1 := ja_len' (cutM q t 1).ahead
    have j2 := ja_len' (cutM q t 1).row
    have j3 := ja_len' (cutM q t 1).rest
    have g1 := jaR_pos (acc := (0, 0)) a1 (Int.le_refl _) (Int.le_refl _)
    have g2 := jaR_pos (acc := (0, 0)) a2 (Int.le_refl _) (Int.le_refl _)
    have g3 := jaR_pos (acc := (0, 0)) a3 (Int.le_refl _) (Int.le_refl _)
    obtain ⟨s1, s2⟩ := jaR_sum (acc := (0, 0)) a2 (Int.le_refl _) (Int.le_refl _)
    simp only at s1 s2
    have mk : ∀ i, i < 2 → Good (N + 4) (firstT q t i) := fun i hi => by
      refine ⟨?_, ?_, ?_, ?_, ?_, ?_⟩
      · show Pos1 ((ja (cutM q t 1).ahead).map (sel i)); rw [ja_R]; exact pos_sel g1 i
      · show Pos1 ((ja (cutM q t 1).row).map (sel i)); rw [ja_R]; exact pos_sel g2 i
      · show Pos1 ((ja (cutM q t 1).rest).map (sel i)); rw [ja_R]; exact pos_sel g3 i
      · show ((ja (cutM q t 1).ahead).map (sel i)).length + ((ja (cutM q t 1).rest).map (sel i)).length ≤ _
        rw [List.length_map, List.length_map]; omega
      · show ((ja (cutM q t 1).row).map (sel i)).length ≤ 3
        rw [List.length_map]; omega
      · show ((ja (cutM q t 1).row).map (sel i)).sum ≤ 100
        rw [ja_R]
        rcases (by omega : i = 0 ∨ i = 1) with rfl | rfl
        · show ((jaR (0, 0) (cutM q t 1).row).map fun p => p.1).sum ≤ 100; omega
        · show ((jaR (0, 0) (cutM q t 1).row).map fun p => p.2).sum ≤ 100; omega
    exact ⟨mk 0 (by decide), mk 1 (by decide)⟩
theorem fold_good : ∀ (ms : List Mb) (t : Tr) (N : Nat), NoL ms → Good N t → Good (N + 4 * ms.length) (foldT ms t)
  | [], t, N, _, h => h
  | m :: ms, t, N, hl, h => by
    have := fold_good ms (memT m t 0) (N + 4) (fun u hu => hl u (List.mem_cons_of_mem _ hu)) (mem_good h m (hl m (List.mem_cons_self ..))).1
    rw [List.length_cons, show N + 4 * (ms.length + 1) = N + 4 + 4 * ms.length by omega]
    exact this
theorem lv_ok {ms : List Mb} {t : Tr} {N : Nat} (hl : NoL ms) (h : Good N t) (hN : N + 4 * ms.length + 4 ≤ 1000) : LvOk ms t := by
  refine ⟨fun i hi => ?_, (fold_good ms t N hl h).ok (by omega)⟩
  have g := fold_good (ms.take i) t N (fun u hu => hl u (List.mem_of_mem_take hu)) h
  have hti : (ms.take i).length ≤ ms.length := by rw [List.length_take]; omega
  have g2 := mem_good g _ (hl _ (getD_mem ⟨.last, 0⟩ hi))
  exact ⟨g.ok (by omega), g2.1.ok (by omega), g2.2.ok (by omega)⟩
theorem turn_good {N : Nat} {t : Tr} (h : Good N t) : Good N (turnT t) := by
  obtain ⟨p1, p2, p3, l, lb, sb⟩ := h
  refine ⟨fun g hg => p3 g (List.mem_reverse.mp hg), fun g hg => p2 g (List.mem_reverse.mp hg), fun g hg => p1 g (List.mem_reverse.mp hg), ?_, ?_, ?_⟩
  · show t.fin.reverse.length + t.head.reverse.length ≤ N
    rw [List.length_reverse, List.length_reverse]; omega
  · show t.block.reverse.length ≤ 3
    rw [List.length_reverse]; exact lb
  · show t.block.reverse.sum ≤ 100
    rw [sum_reverse]; exact sb

/-! #### MG -/
/-! ### tables of ways: bounds -/
def WB (e : Nat) (xs : List Int) : Prop := ∀ i, i < xs.length → (xs.getD i 0).natAbs ≤ 2 ^ (e * i)
theorem sum_half (f : Nat → Int) (A w : Nat) : ∀ m, m ≤ w → (∀ i, i < m → (f i).natAbs ≤ A * 2 ^ (w - 1 - i)) → (((List.range m).map f).sum).natAbs + A * 2 ^ (w - m) ≤ A * 2 ^ w
  | 0, _, _ => by show (0 : Int).natAbs + _ ≤ _; simp
  | m + 1, hm, h => by
    have ih := sum_half f A w m (by omega) fun i hi => h i (by omega)
    have hs : ((List.range (m + 1)).map f).sum = ((List.range m).map f).sum + f m := by rw [range_snoc, List.map_append, List.sum_append]; simp
    have h1 := h m (by omega)
    have h2 := Int.natAbs_add_le (((List.range m).map f).sum) (f m)
    have e1 : 2 ^ (w - m) = 2 * 2 ^ (w - 1 - m) := by rw [show w - m = (w - 1 - m) + 1 by omega, Nat.pow_succ, Nat.mul_comm]
    rw [show w - (m + 1) = w - 1 - m by omega, hs]
    rw [e1] at ih
    have e2 : A * (2 * 2 ^ (w - 1 - m)) = A * 2 ^ (w - 1 - m) + A * 2 ^ (w - 1 - m) := by rw [← Nat.mul_add]; congr 1; omega
    omega
theorem sum_many (f : Nat → Int) (A : Nat) : ∀ m, (∀ i, i < m → (f i).natAbs ≤ A) → (((List.range m).map f).sum).natAbs ≤ m * A
  | 0, _ => by show (0 : Int).natAbs ≤ _; simp
  | m + 1, h => by
    have ih := sum_many f A m fun i hi => h i (by omega)
    have hs : ((List.range (m + 1)).map f).sum = ((List.range m).map f).sum + f m := by rw [range_snoc, List.map_append, List.sum_append]; simp
    have h1 := h m (by omega)
    have h2 := Int.natAbs_add_le (((List.range m).map f).sum) (f m)
    rw [hs, Nat.succ_mul]
    omega
theorem getD_app1 {xs ys : List Int} {i : Nat} (h : i < xs.length) : (xs ++ ys).getD i 0 = xs.getD i 0 := by
  rw [List.getD_eq_getElem?_getD, List.getElem?_append_left h, List.getD_eq_getElem?_getD]
theorem wb_chain {e : Nat} {steps : List Int} (h : WB e steps) (q : Nat) : ∀ n, n + 1 ≤ steps.length → WB (e + 1) (chL steps q n)
  | 0, _ => fun i hi => by
    have : i = 0 := by have hi : i < 1 := hi; omega
    subst this
    exact Nat.le_refl 1
  | n + 1, hn => fun i hi => by
    have ih := wb_chain h q n (by omega)
    have hl := chL_len steps q n
    rw [chL_len] at hi
    have he : chL steps q (n + 1) = chL steps q n ++ [((List.range (min (n + 1) (q - 1))).map fun i => steps.getD (i + 1) 0 * (chL steps q n).getD (n - i) 0).sum] := rfl
    rw [he]
    rcases Nat.lt_or_ge i (n + 1) with c | c
    · rw [getD_app1 (by omega)]
      exact ih i (by omega)
    · have : i = n + 1 := by omega
      subst this
      rw [List.getD_eq_getElem?_getD, List.getElem?_append_right (by omega), hl, Nat.sub_self]
      show Int.natAbs (((List.range (min (n + 1) (q - 1))).map fun i => steps.getD (i + 1) 0 * (chL steps q n).getD (n - i) 0).sum) ≤ _
      have hb := sum_half (fun i => steps.getD (i + 1) 0 * (chL steps q n).getD (n - i) 0) (2 ^ (e * (n + 1))) (n + 1) (min (n + 1) (q - 1)) (Nat.min_le_left _ _) fun k hk => by
        show (steps.getD (k + 1) 0 * (chL steps q n).getD (n - k) 0).natAbs ≤ _
        rw [Int.natAbs_mul]
        refine Nat.le_trans (Nat.mul_le_mul (h (k + 1) (by omega)) (ih (n - k) (by omega))) ?_
        rw [← Nat.pow_add, ← Nat.pow_add]
        refine Nat.pow_le_pow_right (by decide) (Nat.le_of_eq ?_)
        obtain ⟨d, rfl⟩ : ∃ d, n = k + d := ⟨n - k, by omega⟩
        rw [show k + d - k = d by omega, show k + d + 1 - 1 - k = d by omega]
        simp only [Nat.mul_add, Nat.add_mul, Nat.mul_one, Nat.one_mul]
        omega
      refine Nat.le_trans (Nat.le_trans (Nat.le_add_right _ _) hb) ?_
      rw [← Nat.pow_add]
      exact Nat.pow_le_pow_right (by decide) (Nat.le_of_eq (by rw [Nat.add_mul, Nat.one_mul]))
theorem wb_fold {e : Nat} {one other : List Int} {size : Nat} (h1 : WB (e + 1) one) (h2 : WB e other) (l1 : one.length = size + 1) (l2 : other.length = size + 1) : WB (e + 2) (foldM one other size) := fun n hn => by
  have hn : n < ((List.range (size + 1)).map _).length := hn
  rw [List.length_map, List.length_range] at hn
  have e0 : (foldM one other size).getD n 0 = ((List.range (n + 1)).map fun p => one.getD p 0 * other.getD (n - p) 0).sum := by
    unfold foldM
    rw [List.getD_eq_getElem?_getD, List.getElem?_map, List.getElem?_range hn]; rfl
  rw [e0]
  have hb := sum_many (fun p => one.getD p 0 * other.getD (n - p) 0) (2 ^ ((e + 1) * n)) (n + 1) fun p hp => by
    show (one.getD p 0 * other.getD (n - p) 0).natAbs ≤ _
    rw [Int.natAbs_mul]
    refine Nat.le_trans (Nat.mul_le_mul (h1 p (by omega)) (h2 (n - p) (by omega))) ?_
    rw [← Nat.pow_add]
    refine Nat.pow_le_pow_right (by decide) ?_
    obtain ⟨d, rfl⟩ : ∃ d, n = p + d := ⟨n - p, by omega⟩
    rw [show p + d - p = d by omega]
    simp only [Nat.mul_add, Nat.add_mul, Nat.one_mul]
    omega
  refine Nat.le_trans hb ?_
  have h3 : n + 1 ≤ 2 ^ n := Nat.lt_two_pow_self
  refine Nat.le_trans (Nat.mul_le_mul_right _ h3) ?_
  rw [← Nat.pow_add]
  refine Nat.pow_le_pow_right (by decide) (Nat.le_of_eq ?_)
  simp only [Nat.add_mul, Nat.one_mul]
  omega
theorem fold_len (one other : List Int) (size : Nat) : (foldM one other size).length = size + 1 := by unfold foldM; rw [List.length_map, List.length_range]
theorem wb_mono {e f : Nat} (h : e ≤ f) {xs : List Int} (b : WB e xs) : WB f xs := fun i hi => Nat.le_trans (b i hi) (Nat.pow_le_pow_right (by decide) (Nat.mul_le_mul_right _ h))
theorem wb_great {e q : Nat} {xs : List Int} (b : WB e xs) : WB e (greatOf q xs) := fun i hi => by
  rw [great_len] at hi
  have e0 : (greatOf q xs).getD i 0 = if q ≤ i then xs.getD i 0 else 0 := by
    unfold greatOf
    rw [List.getD_eq_getElem?_getD, List.getElem?_map, List.getElem?_zipIdx, List.getElem?_eq_getElem hi, List.getD_eq_getElem?_getD, List.getElem?_eq_getElem hi]
    show (if q ≤ 0 + i then _ else _) = _
    rw [Nat.zero_add]; rfl
  rw [e0]
  split
  · exact b i hi
  · exact Nat.zero_le _
/-- three tables of the size, within bounds -/
def Wt (e size : Nat) (x : Wy) : Prop := x.steps.length = size + 1 ∧ x.heads.length = size + 1 ∧ x.tails.length = size + 1 ∧ WB e x.steps ∧ WB e x.heads ∧ WB e x.tails
theorem wt_add {e size : Nat} {x : Wy} (h : Wt e size x) (r : Kd × Nat) : Wt (e + 2) size (addW size x r) := by
  obtain ⟨l1, l2, l3, b1, b2, b3⟩ := h
  have hc := wb_chain b1 r.2 size (by omega)
  have hl := chL_len x.steps r.2 size
  refine ⟨fold_len _ _ _, ?_, ?_, wb_fold hc (wb_great b1) hl ((great_len _ _).trans l1), ?_, ?_⟩
  · show (if r.1 = .last then foldM _ _ _ else _).length = _
    split
    · exact fold_len _ _ _
    · exact l2
  · show (if r.1 = .first then foldM _ _ _ else _).length = _
    split
    · exact fold_len _ _ _
    · exact l3
  · show WB _ (if r.1 = .last then foldM _ _ _ else _)
    split
    · exact wb_fold hc b2 hl l2
    · exact wb_mono (by omega) b2
  · show WB _ (if r.1 = .first then foldM _ _ _ else _)
    split
    · exact wb_fold hc b3 hl l3
    · exact wb_mono (by omega) b3
theorem wb_rep (n : Nat) : WB 0 (List.replicate n 1) := fun i hi => by
  rw [List.length_replicate] at hi
  rw [List.getD_eq_getElem?_getD, List.getElem?_replicate, if_pos hi, Nat.zero_mul]
  exact Nat.le_refl 1
theorem wt_0 (size : Nat) : Wt 0 size (wy0 size) := by
  refine ⟨by show (0 :: List.replicate size (1 : Int)).length = _; rw [List.length_cons, List.length_replicate], by show (List.replicate (size + 1) (1 : Int)).length = _; rw [List.length_replicate], by show (List.replicate (size + 1) (1 : Int)).length = _; rw [List.length_replicate], ?_, wb_rep _, wb_rep _⟩
  intro i hi
  cases i with
  | zero => exact Nat.zero_le _
  | succ i =>
    have := wb_rep size i (by
      have hi : i + 1 < (0 :: List.replicate size (1 : Int)).length := hi
      rw [List.length_cons, List.length_replicate] at hi
      rw [List.length_replicate]; omega)
    rw [Nat.zero_mul] at this ⊢
    exact this
theorem wt_fold (size : Nat) : ∀ rs : List Rec, Wt (2 * rs.length) size (foldW size rs) := by
  intro rs
  suffices ∀ (rs : List Rec) (x : Wy) (e : Nat), Wt e size x → Wt (e + 2 * rs.length) size (rs.foldl (fun x r => addW size x (r.1, r.2.toNat)) x) by
    have := this rs (wy0 size) 0 (wt_0 size)
    rw [Nat.zero_add] at this
    exact this
  intro rs
  induction rs with
  | nil => intro x e h; exact h
  | cons r rs ih =>
    intro x e h
    have := ih _ _ (wt_add h (r.1, r.2.toNat))
    rw [List.length_cons, show e + 2 * (rs.length + 1) = e + 2 + 2 * rs.length by omega]
    exact this
theorem wb_sm {e size : Nat} {xs : List Int} (b : WB e xs) (hl : xs.length = size + 1) (h : e * size < 20000) : Sm xs := fun x hx => by
  obtain ⟨i, hi, e1⟩ := List.mem_iff_getElem.mp hx
  have := b i hi
  rw [List.getD_eq_getElem?_getD, List.getElem?_eq_getElem hi] at this
  have this : xs[i].natAbs ≤ _ := this
  rw [e1] at this
  refine Nat.lt_of_le_of_lt this (Nat.pow_lt_pow_right (by decide) (Nat.lt_of_le_of_lt (Nat.mul_le_mul_left e (by omega : i ≤ size)) h))
theorem wt_ok {e size : Nat} {x : Wy} (h : Wt e size x) (hb : e * size < 20000) : WyOk size x := by
  obtain ⟨l1, l2, l3, b1, b2, b3⟩ := h
  exact ⟨l1, l2, l3, wb_sm b1 l1 hb, wb_sm b2 l2 hb, wb_sm b3 l3 hb⟩
theorem fw_ok {size : Nat} (hs : size ≤ 299) {rs : List Rec} (hr : rs.length ≤ 30) : FwOk size rs := by
  have small : ∀ e, e ≤ 61 → e * size < 20000 := fun e he => Nat.lt_of_le_of_lt (Nat.mul_le_mul he hs) (by decide)
  refine ⟨fun i hi => ?_, wt_ok (wt_fold size rs) (small _ (by omega))⟩
  have h := wt_fold size (rs.take i)
  have hl : (rs.take i).length ≤ 30 := by rw [List.length_take]; omega
  refine ⟨wt_ok h (small _ (by omega)), ?_⟩
  obtain ⟨l1, _, _, b1, _, _⟩ := h
  exact wb_sm (wb_chain b1 _ size (by omega)) (chL_len _ _ _) (small _ (by omega))
/-! ### tables of the mirror -/
def turnR (r : Rec) : Rec := (r.1.turn, r.2)
def swapW (x : Wy) : Wy := ⟨x.steps, x.tails, x.heads⟩
theorem add_swap (size : Nat) (x : Wy) (k : Kd) (q : Nat) : addW size (swapW x) (k.turn, q) = swapW (addW size x (k, q)) := by
  unfold addW swapW
  cases k <;> rfl
theorem fold_swap (size : Nat) (rs : List Rec) : foldW size (rs.map turnR) = swapW (foldW size rs) := by
  suffices ∀ (rs : List Rec) (x : Wy), (rs.map turnR).foldl (fun x r => addW size x (r.1, r.2.toNat)) (swapW x) = swapW (rs.foldl (fun x r => addW size x (r.1, r.2.toNat)) x) from this rs (wy0 size)
  intro rs
  induction rs with
  | nil => intro x; rfl
  | cons r rs ih =>
    intro x
    rw [List.map_cons, List.foldl_cons, List.foldl_cons]
    show (rs.map turnR).foldl _ (addW size (swapW x) (r.1.turn, r.2.toNat)) = _
    rw [add_swap]
    exact ih _
def prd (l : List Int) : Int := l.foldr (fun x y => x * y) 1
theorem prd_app (a b : List Int) : prd (a ++ b) = prd a * prd b := by
  induction a with
  | nil => show prd b = 1 * prd b; rw [Int.one_mul]
  | cons x a ih => show x * prd (a ++ b) = x * prd a * prd b; rw [ih, Int.mul_assoc]
theorem prd_rev (l : List Int) : prd l.reverse = prd l := by
  induction l with
  | nil => rfl
  | cons x l ih => rw [List.reverse_cons, prd_app, ih]; show prd l * (x * 1) = x * prd l; rw [Int.mul_one, Int.mul_comm]
def gapS (steps ts : List Int) (i : Nat) : Int := steps.getD (ts.getD (i + 1) 0 - ts.getD i 0).toNat 0
theorem prodW_prd (steps ts : List Int) (f0 : Int) : ∀ n, prodW steps ts f0 n = f0 * prd ((List.range n).map (gapS steps ts))
  | 0 => by show f0 = f0 * 1; rw [Int.mul_one]
  | n + 1 => by
    rw [prodW_succ, prodW_prd steps ts f0 n, range_snoc, List.map_append, prd_app, Int.mul_assoc]
    congr 1
    show _ = prd ((List.range n).map (gapS steps ts)) * (gapS steps ts n * 1)
    rw [Int.mul_one]; rfl
/-- the mirror's times: o less the events, turned round -/
def mirT (o l : Int) (ts : List Int) : List Int := ts.reverse.map fun t => o - (t - l)
theorem mirT_len (o l : Int) (ts : List Int) : (mirT o l ts).length = ts.length := by unfold mirT; rw [List.length_map, List.length_reverse]
theorem mirT_get (o l : Int) {ts : List Int} {i : Nat} (h : i < ts.length) : (mirT o l ts).getD i 0 = o - (ts.getD (ts.length - 1 - i) 0 - l) := by
  unfold mirT
  rw [List.getD_eq_getElem?_getD, List.getElem?_map, List.getElem?_reverse h, List.getD_eq_getElem?_getD, List.getElem?_eq_getElem (by omega)]; rfl
theorem cp_mir (size : Nat) (rs : List Rec) (ts : List Int) (o l : Int) (i j : Nat) : cpM size (rs.map turnR) (mirT o l ts) j i = cpM size rs ts i j := by
  unfold cpM
  rw [fold_swap, prodW_prd, prodW_prd, mirT_len]
  show (foldW size rs).tails.getD j 0 * (foldW size rs).heads.getD i 0 * _ = _
  rw [Int.mul_comm ((foldW size rs).tails.getD j 0)]
  congr 1
  have e : (List.range (ts.length - 1)).map (gapS (swapW (foldW size rs)).steps (mirT o l ts)) = ((List.range (ts.length - 1)).map (gapS (foldW size rs).steps ts)).reverse := by
    rw [← List.map_reverse, range_rev, List.map_map]
    refine List.map_congr_left fun k hk => ?_
    have hk := List.mem_range.mp hk
    show gapS (foldW size rs).steps (mirT o l ts) k = gapS (foldW size rs).steps ts (ts.length - 1 - 1 - k)
    unfold gapS
    rw [mirT_get o l (by omega), mirT_get o l (by omega)]
    congr 2
    rw [show ts.length - 1 - (k + 1) = ts.length - 1 - 1 - k by omega, show ts.length - 1 - 1 - k + 1 = ts.length - 1 - k by omega]
    omega
  rw [e, prd_rev]

/-! #### MH -/
/-! ### records, straight -/
def recsF : Int → List Mb → List Rec
  | _, [] => []
  | most, m :: ms => if m.k ≠ .delay ∧ most < m.q then (m.k, m.q) :: recsF m.q ms else recsF most ms
theorem recs_F : ∀ (ms pre : List Mb) (most : Int), (rpF pre.length most ms).map (recOf (pre ++ ms)) = recsF most ms
  | [], _, _ => rfl
  | m :: ms, pre, most => by
    have e : pre ++ m :: ms = (pre ++ [m]) ++ ms := by rw [List.append_assoc]; rfl
    have hl : (pre ++ [m]).length = pre.length + 1 := by rw [List.length_append]; rfl
    have ih := fun mo => recs_F ms (pre ++ [m]) mo
    rw [hl, ← e] at ih
    show ((if m.k ≠ .delay ∧ most < m.q then pre.length :: rpF (pre.length + 1) m.q ms else rpF (pre.length + 1) most ms)).map _ = (if m.k ≠ .delay ∧ most < m.q then (m.k, m.q) :: recsF m.q ms else recsF most ms)
    by_cases hc : m.k ≠ .delay ∧ most < m.q
    · rw [if_pos hc, if_pos hc, List.map_cons, ih m.q]
      congr 1
      unfold recOf
      rw [List.getD_eq_getElem?_getD, List.getElem?_append_right (Nat.le_refl _), Nat.sub_self]; rfl
    · rw [if_neg hc, if_neg hc, ih most]
theorem recsOf_F (ms : List Mb) : recsOf ms = recsF 1 ms := recs_F ms [] 1
theorem recsF_gt : ∀ (ms : List Mb) (most : Int), ∀ r ∈ recsF most ms, most < r.2
  | [], _, r, h => nomatch h
  | m :: ms, most, r, h => by
    have h : r ∈ (if m.k ≠ .delay ∧ most < m.q then (m.k, m.q) :: recsF m.q ms else recsF most ms) := h
    split at h
    · rename_i hc
      rcases List.mem_cons.mp h with rfl | h
      · exact hc.2
      · have := recsF_gt ms m.q r h; omega
    · exact recsF_gt ms most r h
def SortR (a : List Rec) : Prop := a.Pairwise fun r s => r.2 < s.2
theorem recsF_sort : ∀ (ms : List Mb) (most : Int), SortR (recsF most ms)
  | [], _ => List.Pairwise.nil
  | m :: ms, most => by
    show SortR (if m.k ≠ .delay ∧ most < m.q then (m.k, m.q) :: recsF m.q ms else recsF most ms)
    split
    · exact List.pairwise_cons.mpr ⟨fun r hr => recsF_gt ms m.q r hr, recsF_sort ms m.q⟩
    · exact recsF_sort ms most
theorem recs_b {ms : List Mb} (hl : NoL ms) (hn : ms.length ≤ 1000) (hq : ∀ m ∈ ms, m.q ≤ 2 ^ 40) : RecB (recsOf ms) ∧ SortR (recsOf ms) := by
  refine ⟨⟨Nat.le_trans (recs_len ms) hn, fun r hr => ?_⟩, by rw [recsOf_F]; exact recsF_sort ms 1⟩
  obtain ⟨m, hm, h1, h2, h3⟩ := rec_of ms r hr
  have := recsF_gt ms 1 r (by rw [← recsOf_F]; exact hr)
  refine ⟨by omega, by rw [← h2]; exact hq m hm, ?_⟩
  rw [← h1]
  have := hl m hm
  revert this h3
  cases m.k <;> simp
theorem turn_delay (k : Kd) : k.turn ≠ .delay ↔ k ≠ .delay := by cases k <;> decide
theorem recsF_turn : ∀ (ms : List Mb) (most : Int), recsF most (turnMs ms) = (recsF most ms).map turnR
  | [], _ => rfl
  | m :: ms, most => by
    show (if m.k.turn ≠ .delay ∧ most < m.q then (m.k.turn, m.q) :: recsF m.q (turnMs ms) else recsF most (turnMs ms)) = ((if m.k ≠ .delay ∧ most < m.q then (m.k, m.q) :: recsF m.q ms else recsF most ms)).map turnR
    by_cases hc : m.k ≠ .delay ∧ most < m.q
    · rw [if_pos hc, if_pos ⟨(turn_delay m.k).mpr hc.1, hc.2⟩, recsF_turn ms]; rfl
    · rw [if_neg hc, if_neg (fun z => hc ⟨(turn_delay m.k).mp z.1, z.2⟩), recsF_turn ms]
theorem recs_turn (ms : List Mb) : recsOf (turnMs ms) = (recsOf ms).map turnR := by rw [recsOf_F, recsOf_F, recsF_turn]
theorem rpF_turn : ∀ (ms : List Mb) (i : Nat) (most : Int), rpF i most (turnMs ms) = rpF i most ms
  | [], _, _ => rfl
  | m :: ms, i, most => by
    show (if m.k.turn ≠ .delay ∧ most < m.q then i :: rpF (i + 1) m.q (turnMs ms) else rpF (i + 1) most (turnMs ms)) = (if m.k ≠ .delay ∧ most < m.q then i :: rpF (i + 1) m.q ms else rpF (i + 1) most ms)
    by_cases hc : m.k ≠ .delay ∧ most < m.q
    · rw [if_pos hc, if_pos ⟨(turn_delay m.k).mpr hc.1, hc.2⟩, rpF_turn ms]
    · rw [if_neg hc, if_neg (fun z => hc ⟨(turn_delay m.k).mp z.1, z.2⟩), rpF_turn ms]
theorem turn_len (ms : List Mb) : (turnMs ms).length = ms.length := List.length_map _
theorem idle_turn (ms : List Mb) : idleOf (turnMs ms) = idleOf ms := by unfold idleOf; rw [rpF_turn, turn_len]
theorem turn_turn (k : Kd) : k.turn.turn = k := by cases k <;> rfl
theorem turnR_inj {r s : Rec} (h : turnR r = turnR s) : r = s := by
  obtain ⟨k, q⟩ := r
  obtain ⟨l, p⟩ := s
  have h1 : k.turn = l.turn := congrArg Prod.fst h
  have h2 : q = p := congrArg Prod.snd h
  rw [← turn_turn k, h1, turn_turn, h2]
theorem mapR_inj {a b : List Rec} (h : a.map turnR = b.map turnR) : a = b := List.map_inj_right (fun _ _ e => turnR_inj e) |>.mp h
/-! ### what parts two rows -/
theorem sort_eq : ∀ {a b : List Rec}, SortR a → SortR b → (∀ x ∈ a, x ∈ b) → (∀ x ∈ b, x ∈ a) → a = b
  | [], [], _, _, _, _ => rfl
  | [], y :: b, _, _, _, h => nomatch h y (List.mem_cons_self ..)
  | x :: a, [], _, _, h, _ => nomatch h x (List.mem_cons_self ..)
  | x :: a, y :: b, sa, sb, h1, h2 => by
    obtain ⟨a1, a2⟩ := List.pairwise_cons.mp sa
    obtain ⟨b1, b2⟩ := List.pairwise_cons.mp sb
    have hxy : x = y := by
      rcases List.mem_cons.mp (h1 x (List.mem_cons_self ..)) with e | hx
      · exact e
      · rcases List.mem_cons.mp (h2 y (List.mem_cons_self ..)) with e | hy
        · exact e.symm
        · have := b1 x hx; have := a1 y hy; omega
    subst hxy
    congr 1
    refine sort_eq a2 b2 (fun z hz => ?_) (fun z hz => ?_)
    · rcases List.mem_cons.mp (h1 z (List.mem_cons_of_mem _ hz)) with e | h
      · have := a1 z hz; rw [e] at this; omega
      · exact h
    · rcases List.mem_cons.mp (h2 z (List.mem_cons_of_mem _ hz)) with e | h
      · have := b1 z hz; rw [e] at this; omega
      · exact h
theorem sort_q {a : List Rec} (h : SortR a) {x y : Rec} (hx : x ∈ a) (hy : y ∈ a) (e : x.2 = y.2) : x = y := by
  induction a with
  | nil => cases hx
  | cons z a ih =>
    obtain ⟨h1, h2⟩ := List.pairwise_cons.mp h
    rcases List.mem_cons.mp hx with hx1 | hx1
    · rcases List.mem_cons.mp hy with hy1 | hy1
      · rw [hx1, hy1]
      · have := h1 y hy1; rw [← hx1] at this; omega
    · rcases List.mem_cons.mp hy with hy1 | hy1
      · have := h1 x hx1; rw [← hy1] at this; omega
      · exact ih h2 hx1 hy1
theorem fate_two (g : Int) : ∀ rs : List Rec, fate g rs = 2 ↔ ∀ s ∈ rs, ¬ g < s.2
  | [] => ⟨(fun _ s hs => nomatch hs), fun _ => rfl⟩
  | r :: rs => by
    show (if g < r.2 then (if r.1 = .last then 1 else 0) else fate g rs) = (2 : Int) ↔ _
    by_cases h : g < r.2
    · rw [if_pos h]
      constructor
      · intro e; split at e <;> cases e
      · intro hh; exact absurd h (hh r (List.mem_cons_self ..))
    · rw [if_neg h, fate_two g rs]
      constructor
      · intro hh s hs
        rcases List.mem_cons.mp hs with rfl | hs
        · exact h
        · exact hh s hs
      · intro hh s hs; exact hh s (List.mem_cons_of_mem _ hs)
theorem pgap_none (a b : List Rec) : ∀ rs : List Rec, pgapF a b rs = none → ∀ r ∈ rs, 1 < r.2 → fate (r.2 - 1) a = fate (r.2 - 1) b
  | [], _, r, h, _ => nomatch h
  | x :: rs, h, r, hr, h1 => by
    have h : (if 1 < x.2 ∧ fate (x.2 - 1) a ≠ fate (x.2 - 1) b then some (x.2 - 1) else pgapF a b rs) = none := h
    split at h
    · cases h
    · rename_i hc
      rcases List.mem_cons.mp hr with rfl | hr
      · exact Classical.byContradiction fun z => hc ⟨h1, z⟩
      · exact pgap_none a b rs h r hr h1
theorem mem_unlike {a b : List Rec} {r : Rec} : r ∈ unlike a b ↔ (r ∈ a ∧ r ∉ b) ∨ (r ∈ b ∧ r ∉ a) := by
  unfold unlike
  rw [List.mem_filter, List.mem_append]
  by_cases h1 : r ∈ a <;> by_cases h2 : r ∈ b <;> simp [h1, h2]
theorem part_ok {a b : List Rec} (ba : RecB a) (bb : RecB b) (sa : SortR a) (sb : SortR b) (hne : a ≠ b) : PartOk a b := by
  intro hg
  have gap := pgap_none a b (a ++ b) hg
  have hq : ∀ r ∈ unlike a b, 2 ≤ r.2 := fun r hr => by
    rcases mem_unlike.mp hr with h | h
    · exact (ba.2 r h.1).1
    · exact (bb.2 r h.1).1
  have hu : unlike a b ≠ [] := fun e => hne (sort_eq sa sb (fun x hx => Classical.byContradiction fun z => by
      have := mem_unlike.mpr (.inl ⟨hx, z⟩); rw [e] at this; cases this) (fun x hx => Classical.byContradiction fun z => by
      have := mem_unlike.mpr (.inr ⟨hx, z⟩); rw [e] at this; cases this))
  obtain ⟨g1, g2⟩ := grq_spec (unlike a b) 1
  have g1 : grq (unlike a b) ∈ 1 :: (unlike a b).map fun r => r.2 := g1
  have gmax : ∀ s ∈ unlike a b, s.2 ≤ grq (unlike a b) := fun s hs => g2 s.2 (List.mem_cons_of_mem _ (List.mem_map.mpr ⟨s, hs, rfl⟩))
  have hex : ∃ r ∈ unlike a b, r.2 = grq (unlike a b) := by
    rcases List.mem_cons.mp g1 with e | h
    · cases hl : unlike a b with
      | nil => exact absurd hl hu
      | cons x l =>
        have hx : x ∈ unlike a b := by rw [hl]; exact List.mem_cons_self ..
        have := hq x hx
        have := gmax x hx
        omega
    · obtain ⟨r, hr, e⟩ := List.mem_map.mp h
      exact ⟨r, hr, e⟩
  obtain ⟨r, hr, er⟩ := hex
  have hk : r ∈ kindsOf a b := List.mem_filter.mpr ⟨hr, decide_eq_true er⟩
  refine ⟨by have := hq r hr; omega, (fun e => by rw [e] at hk; cases hk), fun hlen => ?_⟩
  have one : ∀ s ∈ kindsOf a b, s = r := fun s hs => by
    match hks : kindsOf a b, hlen with
    | [], _ => rw [hks] at hs; cases hs
    | [x], _ =>
      rw [hks] at hs hk
      rw [List.mem_singleton.mp hs, List.mem_singleton.mp hk]
    | x :: y :: l, h => exact absurd (by rw [List.length_cons, List.length_cons]; omega) h
  have q2 := hq r hr
  have exists_gt : ∀ c : List Rec, fate (r.2 - 1) c ≠ 2 → ∃ s ∈ c, r.2 ≤ s.2 := fun c hc => Classical.byContradiction fun z => hc ((fate_two _ c).mpr fun s hs hlt => z ⟨s, hs, by omega⟩)
  have has : ∀ c : List Rec, r ∈ c → fate (r.2 - 1) c ≠ 2 := fun c hc e => (fate_two _ c).mp e r hc (by omega)
  have fin : ∃ s ∈ a, r.2 < s.2 := by
    rcases mem_unlike.mp hr with ⟨h1, h2⟩ | ⟨h1, h2⟩
    · have hf := gap r (List.mem_append_left _ h1) (by omega)
      obtain ⟨s, hs, hge⟩ := exists_gt b (by rw [← hf]; exact has a h1)
      have hgt : r.2 < s.2 := by
        rcases Int.lt_or_eq_of_le hge with c | c
        · exact c
        · exfalso
          have hsa : s ∉ a := fun z => by
            have := sort_q sa h1 z c
            rw [this] at h2; exact h2 hs
          have hsu := mem_unlike.mpr (.inr ⟨hs, hsa⟩)
          have := one s (List.mem_filter.mpr ⟨hsu, decide_eq_true (by omega)⟩)
          rw [this] at hs; exact h2 hs
      refine ⟨s, Classical.byContradiction fun z => ?_, hgt⟩
      have := gmax s (mem_unlike.mpr (.inr ⟨hs, z⟩))
      omega
    · have hf := gap r (List.mem_append_right _ h1) (by omega)
      obtain ⟨s, hs, hge⟩ := exists_gt a (by rw [hf]; exact has b h1)
      refine ⟨s, hs, ?_⟩
      rcases Int.lt_or_eq_of_le hge with c | c
      · exact c
      · exfalso
        have hsb : s ∉ b := fun z => by
          have := sort_q sb h1 z c
          rw [this] at h2; exact h2 hs
        have hsu := mem_unlike.mpr (.inl ⟨hs, hsb⟩)
        have := one s (List.mem_filter.mpr ⟨hsu, decide_eq_true (by omega)⟩)
        rw [this] at hs; exact h2 hs
  obtain ⟨s, hs, hgt⟩ := fin
  intro e
  have : s ∈ aboveOf a b := List.mem_filter.mpr ⟨hs, decide_eq_true (by omega)⟩
  rw [e] at this
  cases this
/-! ### one row within another -/
def endF (mine theirs : List Rec) : Bool := theirs.isEmpty || (!mine.isEmpty && decide ((theirs.getLastD (.last, 0)).2 ≤ (mine.getD 0 (.last, 0)).2))
def containF : List Rec → List Rec → Bool
  | x :: m, y :: t => if x = y then containF m t else endF (x :: m) (y :: t)
  | m, t => endF m t
theorem end_turn (m t : List Rec) : endF (m.map turnR) (t.map turnR) = endF m t := by
  have e1 : ∀ t : List Rec, (t.map turnR).isEmpty = t.isEmpty := fun t => by cases t <;> rfl
  unfold endF
  rw [e1, e1]
  cases t with
  | nil => rfl
  | cons y t =>
    cases m with
    | nil => rfl
    | cons x m =>
      have h1 : (((y :: t).map turnR).getLastD (.last, 0)).2 = ((y :: t).getLastD (.last, 0)).2 := by
        rw [List.getLastD_eq_getLast?, List.getLastD_eq_getLast?, List.getLast?_map]
        cases hl : (y :: t).getLast? with
        | none => rfl
        | some z => rfl
      rw [h1]; rfl
theorem contain_turn : ∀ m t : List Rec, containF (m.map turnR) (t.map turnR) = containF m t
  | [], t => by
    show containF [] (t.map turnR) = endF [] t
    rw [← end_turn]; cases t <;> rfl
  | x :: m, [] => by
    show endF ((x :: m).map turnR) ([] : List Rec) = endF (x :: m) []
    exact end_turn (x :: m) []
  | x :: m, y :: t => by
    show (if turnR x = turnR y then containF (m.map turnR) (t.map turnR) else endF ((x :: m).map turnR) ((y :: t).map turnR)) = (if x = y then containF m t else endF (x :: m) (y :: t))
    by_cases h : x = y
    · rw [if_pos h, if_pos (congrArg turnR h), contain_turn m t]
    · rw [if_neg h, if_neg (fun e => h (turnR_inj e)), end_turn]

/-! #### W14 -/
section
variable {P : Program} {w : World} {K : PySem.W.Frag} {mg : Str → Option Value} {base : Heap}
def sEqN (K : PySem.W.Frag) : List D → D → Prop := fun ds d => ∃ a l b k, ds = [nrD K a l, nrD K b k] ∧ d = .bl (decide ((a, l) = (b, k)))
theorem m_Normal_eq (T : Tx K mg) : Met P w K mg base 2 (He.ga K "Normal") "__eq__" (spD K (sEqN K)) [] := by
  refine metD T.fn_Normal_D_eqD_ T.cl_Normal T.me_Normal_D_eqD_ sc_ThingD__eqD_ b_ThingD__eqD_ (fun hr => d_ThingD__eqD_ T hr) (pureP_len ?_) ?_
  · rintro ds d ⟨a, l, b, k, rfl, rfl⟩; rfl
  rintro ds M R ⟨rfl, d, ⟨a, l, b, k, rfl, rfl⟩, rfl⟩
  unfold t_ThingD__eqD_
  walk_at "ev"
  refine ol_isi (.ins (.ins _ _) fun e => T.isi (x := "Normal") (by simp [insN]) T.cl_Normal e) (.own _) (T.kit "Normal" "Thing" true (by simp [kits])) ?_
  walk_at "ev"
  refine ev_meth ?_
  walk_at "ev"
  refine ⟨_, _, 1, _, .ins _ _, rfl, m_Normal_class_name T, by decide, ?_⟩
  walk_at "ev"
  refine ⟨_, ⟨a, l, rfl, rfl⟩, ?_⟩
  refine ev_meth ?_
  walk_at "ev"
  refine ⟨_, _, 1, _, .ins _ _, rfl, m_Normal_class_name T, by decide, ?_⟩
  walk_at "ev"
  refine ⟨_, ⟨b, k, rfl, rfl⟩, ?_⟩
  refine o2_or1 (o2_ne (v := .str "normal") (w := .str "normal") rfl rfl rfl ?_)
  walk_at "ev"
  refine itnN rfl ?_
  walk_at "ev"
  refine ev_meth ?_
  walk_at "ev"
  refine ⟨_, _, 1, _, .ins _ _, rfl, m_Normal_facts T, by decide, ?_⟩
  walk_at "ev"
  refine ⟨_, ⟨a, l, rfl, rfl⟩, ?_⟩
  refine ev_meth ?_
  walk_at "ev"
  refine ⟨_, _, 1, _, .ins _ _, rfl, m_Normal_facts T, by decide, ?_⟩
  walk_at "ev"
  refine ⟨_, ⟨b, k, rfl, rfl⟩, ?_⟩
  refine o2_eqE ((⟨a⟩, l) : Tu Rec × Int) (⟨b⟩, k) rfl rfl ?_
  show D.bl _ = D.bl _
  congr 1
  refine decide_eq_decide.mpr ⟨fun h => ?_, fun h => ?_⟩
  · injection h with h1 h2
    injection h1 with h1
    rw [h1, h2]
  · injection h with h1 h2
    rw [h1, h2]
def sSameRows (K : PySem.W.Frag) : List D → D → Prop := fun ds d => ∃ m n : List Mb, ds = [rowD K m, rowD K n] ∧ NoL m ∧ NoL n ∧ m.length ≤ 90000 ∧ n.length ≤ 90000 ∧ d = .bl (decide ((recsOf m, late m) = (recsOf n, late n)))
theorem c_same_rows (T : Tx K mg) : Cal P w K mg base 6 "same_rows" (spD K (sSameRows K)) [] := by
  refine calD T.fn_same_rows T.mg_same_rows sc_same_rows b_same_rows (fun hr => d_same_rows T hr) (pureP_len ?_) ?_
  · rintro ds d ⟨a, b, rfl, _⟩; rfl
  rintro ds M R ⟨rfl, d, ⟨m, n, rfl, nm, nn, lm, ln, rfl⟩, rfl⟩
  unfold t_same_rows
  walk_at "ev"
  refine evr_call (c_normal_form T) (by decide) ?_
  walk_at "ev"
  refine ⟨_, ⟨m, rfl, nm, lm, rfl⟩, ?_⟩
  refine evr_call (c_normal_form T) (by decide) ?_
  walk_at "ev"
  refine ⟨_, ⟨n, rfl, nn, ln, rfl⟩, ?_⟩
  refine o2_eqO (.ins _ _) (.ins _ _) (m_Normal_eq T) (by decide) ⟨_, _, _, _, rfl, rfl⟩ ?_
  rfl
def sIsContained (K : PySem.W.Frag) : List D → D → Prop := fun ds d => ∃ (m n : List Mb) (k : Kd), ds = [rowD K m, rowD K n] ∧ NoL m ∧ NoL n ∧ m.length ≤ 100 ∧ n.length ≤ 100 ∧ (k = .last ∨ k = .first) ∧ (∀ r ∈ recsOf m ++ recsOf n, r.1 = k) ∧ d = .bl (containF (recsOf m) (recsOf n))
theorem map_const {rs : List Rec} {k : Kd} (h : ∀ r ∈ rs, r.1 = k) : rs.map (fun r => D.str r.1.str) = List.replicate rs.length (D.str k.str) := by
  induction rs with
  | nil => rfl
  | cons r rs ih => rw [List.map_cons, List.length_cons, List.replicate_succ, ih fun x hx => h x (List.mem_cons_of_mem _ hx), h r (List.mem_cons_self ..)]
theorem o2_notInB {α : Type} [DecidableEq α] [Enc α] {M : Mem} {R : D → Mem → Prop} {x y : D} (a : α) (xs : List α) (hx : x = Enc.en a) (hy : y = .tup (xs.map Enc.en)) (b : Bool) (hb : b = true ↔ a ∈ xs) (k : R (.bl (!b)) M) (hd : Enc.dep α + 1 ≤ 64 := by decide) : O2 K (rNotInX K) x y M R :=
  o2_notInTu a xs hx hy (by
    have e : ∀ i : Decidable (a ∈ xs), @decide (a ∈ xs) i = b := fun i => by
      cases i with
      | isTrue h => rw [hb.mpr h]; rfl
      | isFalse h => cases hbb : b with
        | false => rfl
        | true => exact absurd (hb.mp hbb) h
    rw [e]; exact k) hd
theorem c_is_contained (T : Tx K mg) : Cal P w K mg base 4 "is_contained" (spD K (sIsContained K)) [] := by
  refine calD T.fn_is_contained T.mg_is_contained sc_is_contained b_is_contained (fun hr => d_is_contained T hr) (pureP_len ?_) ?_
  · rintro ds d ⟨a, b, k, rfl, _⟩; rfl
  rintro ds M R ⟨rfl, d, ⟨m, n, k, rfl, nm, nn, lm, ln, hk, hall, rfl⟩, rfl⟩
  unfold t_is_contained
  have l1 := recs_len m
  have l2 := recs_len n
  walk_at "ev"
  refine evr_call (c_records_of T) (by decide) ?_
  walk_at "ev"
  refine ⟨_, ⟨m, rfl, nm, by omega, rfl⟩, ?_⟩
  walk_at "ev"
  refine ol_listA (.tup _) ?_
  walk_at "ev"
  refine evr_call (c_records_of T) (by decide) ?_
  walk_at "ev"
  refine ⟨_, ⟨n, rfl, nn, by omega, rfl⟩, ?_⟩
  walk_at "ev"
  refine ol_listA (.tup _) ?_
  generalize recsOf m = a at *
  generalize recsOf n = b at *
  refine ear_nil ⟨_, _, rfl, ?_⟩
  refine st_seq (st_set ?_)
  refine evr_sortSetS (n := (a ++ b).length) (x := k.str) ?_
  refine evr_lcm (α := Rec) (is := is2 5 6) (by decide) (itr_seq ?_)
  walk_at "ev"
  refine o2_addM (ρ := []) (by omega) ?_
  refine ⟨_, _, .lst _, a ++ b, Enc.en, fun r => .str r.1.str, rfl, by rw [List.length_append]; omega, ?_, ?_⟩
  · rintro ⟨kd, q⟩ hr
    show TgR _ _ K (.tup [.str kd.str, .int q]) _ _
    walk_at "ev"
    exact ⟨rfl, rfl⟩
  refine ⟨by rw [map_const hall]; exact .lst _, by rw [List.length_append]; omega, ?_⟩
  walk_at "ev"
  refine o2_notInB (α := List Kd) (if (a ++ b).length = 0 then [] else [k]) [[], [.last], [.first]] ?_ rfl true ⟨fun _ => ?_, fun _ => rfl⟩ ?_
  · split <;> rfl
  · rcases hk with rfl | rfl <;> split <;> simp
  walk_at "ev"
  refine st_while (fun i ρ' M' => M' = [] ∧ ∃ x y u v z, i = x.length ∧ x.length ≤ 100 ∧ y.length ≤ 100 ∧ containF x y = containF a b ∧ ρ' = [some (rowD K m), some (rowD K n), some (.lst (rcD x)), some (.lst (rcD y)), u, v, z]) ⟨a.length, rfl, a, b, _, _, _, rfl, by omega, by omega, rfl, rfl⟩ ?_
  rintro i ρ' M' ⟨rfl, x, y, u, v, z, rfl, lx, ly, hc, rfl⟩
  have fin : containF x y = endF x y → StR K (tRet (tOrV (tOp (rEqX K) (tVar 3) (tLst tNil)) (tAndV (tOp (rNeX K) (tVar 2) (tLst tNil)) (tOp (rI0 fun i j => .bl (decide (j ≤ i))) (tOp (rIx K) (tOp (rIx K) (tVar 2) (tC (.int 0))) (tC (.int 1))) (tOp (rIx K) (tOp (rIx K) (tVar 3) (tUn (rU fun i => .int (-i)) (tC (.int 1)))) (tC (.int 1))))))) [some (rowD K m), some (rowD K n), some (.lst (rcD x)), some (.lst (rcD y)), u, v, z] [] { nx := fun _ _ => False, rt := fun d' _ => d' = .bl (containF a b) } := by
    intro he
    walk_at "ev"
    refine o2_eqNilE y (.lst _) ?_
    walk_at "ev"
    rw [← hc, he]
    cases y with
    | nil => exact itT rfl
    | cons y0 y =>
      refine itF ?_
      walk_at "ev"
      refine o2_neNilE x (.lst _) ?_
      walk_at "ev"
      cases x with
      | nil => exact itF rfl
      | cons x0 x =>
        refine itT ?_
        walk_at "ev"
        refine o2_ix (.lst _) (d := Enc.en x0) (atI_nat (k := 0) rfl) ?_
        walk_at "ev"
        refine o2_ix (.tup _) (d := .int x0.2) rfl ?_
        walk_at "ev"
        refine o2_ix (.lst _) (d := Enc.en ((y0 :: y).getLastD (.last, 0))) (atI_last (by rw [List.getLast?_map, lastD_get (a := (Kd.last, (0 : Int))) rfl]; rfl)) ?_
        walk_at "ev"
        refine o2_ix (.tup _) (d := .int ((y0 :: y).getLastD (.last, 0)).2) rfl ?_
        walk_at "ev"
        rfl
  walk_at "ev"
  refine o2_neNilE x (.lst _) ?_
  walk_at "ev"
  refine itB (fun hx => ?_) (fun hx => ?_)
  · walk_at "ev"
    refine o2_neNilE y (.lst _) ?_
    walk_at "ev"
    refine itB (fun hy => ?_) (fun hy => ?_)
    · cases x with
      | nil => cases hx
      | cons x0 x =>
        cases y with
        | nil => cases hy
        | cons y0 y =>
          walk_at "ev"
          refine o2_ix (.lst _) (d := Enc.en x0) (atI_nat (k := 0) rfl) ?_
          walk_at "ev"
          refine o2_ix (.lst _) (d := Enc.en y0) (atI_nat (k := 0) rfl) ?_
          refine o2_eqE x0 y0 rfl rfl ?_
          walk_at "ev"
          have hce : containF (x0 :: x) (y0 :: y) = if x0 = y0 then containF x y else endF (x0 :: x) (y0 :: y) := rfl
          refine itD (fun h => ?_) (fun h => ?_)
          · rw [hce, if_pos h] at hc
            refine st_par (ear_c (evr_sl ?_))
            walk_at "ev"
            refine ⟨_, .lst _, ?_⟩
            have e1 := cut_from (f := (Enc.en : Rec → D)) (xs := x0 :: x) (k := 1) (by rw [List.length_cons]; omega)
            have e2 := cut_from (f := (Enc.en : Rec → D)) (xs := y0 :: y) (k := 1) (by rw [List.length_cons]; omega)
            walk_at "ev"
            refine evr_sl ?_
            walk_at "ev"
            refine ⟨_, .lst _, ?_⟩
            walk_at "ev"
            rw [List.length_cons] at lx ly
            refine ⟨x.length, by rw [List.length_cons]; exact Nat.lt_succ_self _, rfl, x, y, u, v, z, rfl, by omega, by omega, hc, ?_⟩
            show [_, _, some (D.lst (cutD (List.map Enc.en (x0 :: x)) (some ((1 : Nat) : Int)) none)), some (D.lst (cutD (List.map Enc.en (y0 :: y)) (some ((1 : Nat) : Int)) none)), _, _, _] = _
            rw [e1, e2]
            rfl
          · exact st_mono (fin (by rw [hce, if_neg h])) (fun _ _ f => f.elim) (fun _ _ x => x) (fun _ _ x => x) (fun _ _ x => x)
    · have e : containF x y = endF x y := by
        cases y with
        | nil => cases x <;> rfl
        | cons _ _ => cases hy
      exact st_mono (fin e) (fun _ _ f => f.elim) (fun _ _ x => x) (fun _ _ x => x) (fun _ _ x => x)
  · have e : containF x y = endF x y := by
      cases x with
      | nil => rfl
      | cons _ _ => cases hx
    exact st_mono (fin e) (fun _ _ f => f.elim) (fun _ _ x => x) (fun _ _ x => x) (fun _ _ x => x)
end

/-! #### W15 -/
section
variable {P : Program} {w : World} {K : PySem.W.Frag} {mg : Str → Option Value} {base : Heap}
/-! ### the law's digits -/
structure Ds where
  a : Int
  b : Int
  c : Int
def Ds.o (s : Ds) : DO := .lst [.int s.a, .int s.b, .int s.c]
def Ds.ok (s : Ds) : Prop := 0 ≤ s.b ∧ s.b ≤ 2147483636 ∧ 0 ≤ s.c ∧ s.c ≤ 2147483587
/-- it draws digits: the owned state goes along -/
def preDigit : List D → Mem → (D → Mem → Prop) → Prop := fun ds M R => ∃ (p : Addr) (s : Ds) (n : Int), ds = [.loc p, .int n] ∧ s.ok ∧ 1 ≤ n ∧ n ≤ 1000 ∧ M = [(p, s.o)] ∧ R = fun d M' => ∃ (i : Int) (s' : Ds), d = .int i ∧ 0 ≤ i ∧ i < n ∧ s'.ok ∧ M' = [(p, s'.o)]
theorem c_digit (T : Tx K mg) : Cal P w K mg base 1 "_law_digit" (spM K preDigit) [] := by
  refine calD T.fn__law_digit T.mg__law_digit sc__law_digit b__law_digit (fun hr => d__law_digit T hr) ?_ ?_
  · rintro ds M R ⟨p, s, n, rfl, _⟩; rfl
  rintro ds M R ⟨p, ⟨a, b, c⟩, n, rfl, ⟨h1, h2, h3, h4⟩, n1, n2, rfl, rfl⟩
  have h1 : 0 ≤ b := h1
  have h2 : b ≤ 2147483636 := h2
  have h3 : 0 ≤ c := h3
  have h4 : c ≤ 2147483587 := h4
  unfold t__law_digit
  walk_at "ev"
  refine o2_ix (.loc memH) (d := .int a) rfl ?_
  walk_at "ev"
  refine itD (fun h => ?_) (fun h => ?_)
  · walk_at "ev"
    refine o2_ix (.loc memH) (d := .int a) rfl ?_
    walk_at "ev"
    refine o2_modI (by omega) ?_
    walk_at "ev"
    refine st_setL ?_
    walk_at "ev"
    refine o2_ix (.loc memH) (d := .int a) rfl ?_
    walk_at "ev"
    refine o2_fdivI (divW (by omega) (by omega)) ?_
    walk_at "ev"
    refine ⟨p, _, [], 0, 0, rfl, rfl, List.Perm.refl _, rfl, ?_⟩
    walk_at "ev"
    exact ⟨a % n, ⟨a / n, b, c⟩, rfl, Int.emod_nonneg _ (by omega), Int.emod_lt_of_pos _ (by omega), ⟨h1, h2, h3, h4⟩, rfl⟩
  · walk_at "ev"
    refine o2_ix (.loc memH) (d := .int b) rfl ?_
    walk_at "ev"
    refine o2_ix (.loc memH) (d := .int b) rfl ?_
    walk_at "ev"
    refine o2_fdivI (divW (by decide) (by decide)) ?_
    walk_at "ev"
    refine o2_mulI (.small ⟨by omega, by omega⟩) ?_
    walk_at "ev"
    refine st_setL ?_
    walk_at "ev"
    refine o2_ix (.loc memH) (d := .int c) rfl ?_
    walk_at "ev"
    refine o2_modI (by decide) ?_
    walk_at "ev"
    refine ⟨p, _, [], 1, 1, rfl, rfl, List.Perm.refl _, rfl, ?_⟩
    have m1 := Int.emod_nonneg (b * (b / 1009 + 69621) + c) (show (2147483629 : Int) ≠ 0 by decide)
    have m2 := Int.emod_lt_of_pos (b * (b / 1009 + 69621) + c) (show (0 : Int) < 2147483629 by decide)
    generalize (b * (b / 1009 + 69621) + c) % 2147483629 = z at *
    walk_at "ev"
    refine o2_ix (.loc memH) (d := .int (z + 7)) rfl ?_
    walk_at "ev"
    refine o2_fdivI (divW (by decide) (by decide)) ?_
    walk_at "ev"
    refine o2_modI (by omega) ?_
    exact ⟨(z + 7) / 97 % n, ⟨a, z + 7, c⟩, rfl, Int.emod_nonneg _ (by omega), Int.emod_lt_of_pos _ (by omega), ⟨by show 0 ≤ z + 7; omega, by show z + 7 ≤ 2147483636; omega, h3, h4⟩, rfl⟩
def preState : List D → Mem → (D → Mem → Prop) → Prop := fun ds M R => ∃ n : Int, ds = [.int n] ∧ M = [] ∧ R = fun d M' => ∃ (p : Addr) (s : Ds), d = .loc p ∧ s.ok ∧ M' = [(p, s.o)]
theorem c_state (T : Tx K mg) : Cal P w K mg base 1 "_law_state" (spM K preState) [] := by
  refine calD T.fn__law_state T.mg__law_state sc__law_state b__law_state (fun hr => d__law_state T hr) ?_ ?_
  · rintro ds M R ⟨n, rfl, _⟩; rfl
  rintro ds M R ⟨n, rfl, rfl, rfl⟩
  unfold t__law_state
  refine st_seq (st_set ?_)
  refine evr_cb (ear_c (evr_var rfl (ear_nil ?_)))
  refine ol_abs ?_
  refine st_ret (evr_lstO ?_)
  generalize (if n < 0 then -n else n) = x
  walk_at "ev"
  refine o2_powI ⟨by decide, by decide, by decide⟩ ?_
  walk_at "ev"
  refine o2_mulI (.small2 (by split <;> decide)) ?_
  walk_at "ev"
  refine o2_modI (by decide) ?_
  walk_at "ev"
  refine o2_modI (by decide) ?_
  walk_at "ev"
  intro p hp
  have m1 := Int.emod_nonneg x (show (2147483629 : Int) ≠ 0 by decide)
  have m2 := Int.emod_lt_of_pos x (show (0 : Int) < 2147483629 by decide)
  have m3 := Int.emod_nonneg x (show (2147483587 : Int) ≠ 0 by decide)
  have m4 := Int.emod_lt_of_pos x (show (0 : Int) < 2147483587 by decide)
  exact ⟨p, ⟨_, _, _⟩, rfl, ⟨by show 0 ≤ x % 2147483629 + 7; omega, by show x % 2147483629 + 7 ≤ 2147483636; omega, m3, by show x % 2147483587 ≤ 2147483587; omega⟩, rfl⟩
def sKinds : List D → D → Prop := fun ds d => ds = [] ∧ d = .lst ([Kd.last, .first, .limit].map Enc.en)
theorem c_kinds (T : Tx K mg) : Cal P w K mg base 1 "_law_kinds" (spD K sKinds) [] := by
  refine calD T.fn__law_kinds T.mg__law_kinds sc__law_kinds b__law_kinds (fun hr => d__law_kinds T hr) (pureP_len ?_) ?_
  · rintro ds d ⟨rfl, rfl⟩; rfl
  rintro ds M R ⟨rfl, d, ⟨rfl, rfl⟩, rfl⟩
  unfold t__law_kinds
  walk_at "ev"
  rfl
/-- what a drawn member may be -/
def RkOk (most : Int) (r : Rec) : Prop := 0 ≤ r.2 ∧ r.2 ≤ most ∧ (r.1 ≠ .delay → 1 ≤ r.2)
def preMembers : List D → Mem → (D → Mem → Prop) → Prop := fun ds M R => ∃ (p : Addr) (s : Ds) (many most : Int), ds = [.loc p, .int many, .int most] ∧ s.ok ∧ 0 ≤ many ∧ many ≤ 100 ∧ 1 ≤ most ∧ most ≤ 100 ∧ M = [(p, s.o)] ∧
  R = fun d M' => ∃ (rs : List Rec) (s' : Ds), d = .lst (rcD rs) ∧ rs.length ≤ many.toNat ∧ (∀ r ∈ rs, RkOk most r) ∧ s'.ok ∧ M' = [(p, s'.o)]
theorem rcD_snoc (xs : List Rec) (i : Rec) : rcD (xs ++ [i]) = rcD xs ++ [Enc.en i] := List.map_append
theorem kind_get {i : Int} (h0 : 0 ≤ i) (h3 : i < 3) : ∃ k : Kd, k ≠ .delay ∧ L2.atI ([Kd.last, .first, .limit].map (Enc.en : Kd → D)) i = some (.str k.str) := by
  rcases (by omega : i = 0 ∨ i = 1 ∨ i = 2) with rfl | rfl | rfl
  · exact ⟨.last, by decide, rfl⟩
  · exact ⟨.first, by decide, rfl⟩
  · exact ⟨.limit, by decide, rfl⟩
theorem c_members (T : Tx K mg) : Cal P w K mg base 2 "_law_members" (spM K preMembers) [] := by
  refine calD T.fn__law_members T.mg__law_members sc__law_members b__law_members (fun hr => d__law_members T hr) ?_ ?_
  · rintro ds M R ⟨p, s, a, b, rfl, _⟩; rfl
  rintro ds M R ⟨p, s, many, most, rfl, hs, m1, m2, o1, o2, rfl, rfl⟩
  unfold t__law_members
  walk_at "ev"
  intro f hf
  walk_at "ev"
  refine st_for (is := [4]) (itr_rng1 (ear_c (evr_callM (c_digit T) (by decide) ?_)))
  walk_at "ev"
  refine ⟨[(p, s.o)], [(f, .lst [])], _, List.Perm.swap _ _ _, ⟨p, s, many + 1, rfl, hs, by omega, by omega, rfl, rfl⟩, ?_⟩
  rintro d Ma ⟨n, s1, rfl, n0, n1, hs1, rfl⟩
  walk_at "ev"
  refine ⟨⟨by omega, by omega⟩, ?_⟩
  refine ⟨fun i ρ' M' => (∃ (rs : List Rec) (s' : Ds), s'.ok ∧ rs.length = i ∧ (∀ r ∈ rs, RkOk most r) ∧ M'.Perm [(p, s'.o), (f, .lst (rcD rs))]) ∧ ∃ u, ρ' = [some (.loc p), some (.int many), some (.int most), some (.loc f), u], ⟨⟨[], s1, hs1, rfl, (fun r hr => nomatch hr), List.Perm.refl _⟩, _, rfl⟩, ?_, ?_⟩
  · rintro i d ρ' M' hd ⟨⟨rs, s2, hs2, hlen, hrs, pm⟩, u, rfl⟩
    obtain ⟨hi, rfl⟩ := rgD_get.mp hd
    have hrl : (rcD rs).length < 100000 := by rw [List.length_map]; omega
    refine tg_name (StR.perm ?_ pm)
    walk_at "ev"
    refine evr_callM (c_digit T) (by decide) ?_
    walk_at "ev"
    refine ⟨[(p, s2.o)], [(f, .lst (rcD rs))], _, List.Perm.refl _, ⟨p, s2, 6, rfl, hs2, by decide, by decide, rfl, rfl⟩, ?_⟩
    rintro d Ma ⟨x, s3, rfl, x0, x1, hs3, rfl⟩
    walk_at "ev"
    refine itD (fun h => ?_) (fun h => ?_)
    · walk_at "ev"
      refine ⟨⟨_, List.mem_cons_of_mem _ memH⟩, ?_⟩
      walk_at "ev"
      refine evr_callM (c_digit T) (by decide) ?_
      walk_at "ev"
      refine ⟨[(p, s3.o)], [(f, .lst (rcD rs))], _, List.Perm.refl _, ⟨p, s3, most, rfl, hs3, by omega, by omega, rfl, rfl⟩, ?_⟩
      rintro d Ma ⟨y, s4, rfl, y0, y1, hs4, rfl⟩
      walk_at "ev"
      refine ⟨_, _, List.Perm.swap _ _ _, hrl, ?_⟩
      refine ⟨⟨rs ++ [(.delay, y)], s4, hs4, by rw [List.length_append, hlen]; rfl, fun r hr => ?_, ?_⟩, _, rfl⟩
      · rcases List.mem_append.mp hr with hr | hr
        · exact hrs r hr
        · rw [List.mem_singleton.mp hr]; exact ⟨y0, by show y ≤ most; omega, fun h => absurd rfl h⟩
      · rw [rcD_snoc]; exact List.Perm.swap _ _ _
    · walk_at "ev"
      refine ⟨⟨_, List.mem_cons_of_mem _ memH⟩, ?_⟩
      walk_at "ev"
      refine evr_call (c_kinds T) (by decide) ?_
      walk_at "ev"
      refine ⟨_, ⟨rfl, rfl⟩, ?_⟩
      refine evr_callM (c_digit T) (by decide) ?_
      walk_at "ev"
      refine ⟨[(p, s3.o)], [(f, .lst (rcD rs))], _, List.Perm.refl _, ⟨p, s3, 3, rfl, hs3, by decide, by decide, rfl, rfl⟩, ?_⟩
      rintro d Ma ⟨y, s4, rfl, y0, y1, hs4, rfl⟩
      obtain ⟨k, hk, ek⟩ := kind_get y0 y1
      refine o2_ix (.lst _) ek ?_
      walk_at "ev"
      refine evr_callM (c_digit T) (by decide) ?_
      walk_at "ev"
      refine ⟨[(p, s4.o)], [(f, .lst (rcD rs))], _, List.Perm.refl _, ⟨p, s4, most, rfl, hs4, by omega, by omega, rfl, rfl⟩, ?_⟩
      rintro d Ma ⟨z, s5, rfl, z0, z1, hs5, rfl⟩
      walk_at "ev"
      refine ⟨_, _, List.Perm.swap _ _ _, hrl, ?_⟩
      refine ⟨⟨rs ++ [(k, 1 + z)], s5, hs5, by rw [List.length_append, hlen]; rfl, fun r hr => ?_, ?_⟩, _, rfl⟩
      · rcases List.mem_append.mp hr with hr | hr
        · exact hrs r hr
        · rw [List.mem_singleton.mp hr]; exact ⟨by show 0 ≤ 1 + z; omega, by show 1 + z ≤ most; omega, fun _ => by show 1 ≤ 1 + z; omega⟩
      · rw [rcD_snoc]; exact List.Perm.swap _ _ _
  · rintro ρ' M' ⟨⟨rs, s2, hs2, hlen, hrs, pm⟩, u, rfl⟩
    rw [rgD_length] at hlen
    refine st_frz (i := 3) rfl (pm.trans (List.Perm.swap _ _ _)) ?_
    walk_at "ev"
    exact ⟨rs, s2, rfl, by omega, hrs, hs2, rfl⟩
end

/-! #### W16 -/
section
variable {P : Program} {w : World} {K : PySem.W.Frag} {mg : Str → Option Value} {base : Heap}
/-- the members drawn, no Limit among them -/
def SmOk (rs : List Rec) : Prop := rs.length ≤ 6 ∧ ∀ r ∈ rs, RkOk 12 r ∧ r.1 ≠ .limit
def mbOf (r : Rec) : Mb := ⟨r.1, r.2⟩
def msOf (rs : List Rec) : List Mb := rs.map mbOf
def sMade (K : PySem.W.Frag) : List D → D → Prop := fun ds d => ∃ rs : List Rec, ds = [.lst (rcD rs)] ∧ SmOk rs ∧ d = .lst ((msOf rs).map (mD K))
theorem c_made (T : Tx K mg) : Cal P w K mg base 4 "_law_made" (spD K (sMade K)) [] := by
  refine calD T.fn__law_made T.mg__law_made sc__law_made b__law_made (fun hr => d__law_made T hr) (pureP_len ?_) ?_
  · rintro ds d ⟨rs, rfl, _⟩; rfl
  rintro ds M R ⟨rfl, d, ⟨rs, rfl, ⟨hl, hr⟩, rfl⟩, rfl⟩
  unfold t__law_made
  walk_at "ev"
  intro f hf
  walk_at "ev"
  refine st_for (is := is2 2 3) (itr_seq ?_)
  walk_at "ev"
  refine ⟨_, _, .lst _, fun i ρ' M' => M' = [(f, .lst ((msOf (rs.take i)).map (mD K)))] ∧ ∃ u v, ρ' = [some (.lst (rcD rs)), some (.loc f), u, v], ⟨rfl, _, _, rfl⟩, ?_, ?_⟩
  · rintro i d ρ' M' hd ⟨rfl, u, v, rfl⟩
    obtain ⟨hi, rfl⟩ := map_get (Kd.last, (0 : Int)) hd
    have he : (msOf (rs.take (i + 1))).map (mD K) = (msOf (rs.take i)).map (mD K) ++ [mD K (mbOf (rs.getD i (Kd.last, 0)))] := by
      unfold msOf
      rw [take_succ_getD (Kd.last, (0 : Int)) hi, List.map_append, List.map_append]; rfl
    have hln : ((msOf (rs.take i)).map (mD K)).length < 100000 := by
      unfold msOf
      rw [List.length_map, List.length_map, List.length_take]; omega
    have hri := hr _ (getD_mem (Kd.last, (0 : Int)) hi)
    generalize rs.getD i (Kd.last, (0 : Int)) = r at *
    obtain ⟨k, q⟩ := r
    obtain ⟨⟨q0, q1, q2⟩, hk⟩ := hri
    show TgR _ _ K (.tup [.str k.str, .int q]) _ _
    walk_at "ev"
    refine o2_eqK k .last rfl rfl ?_
    walk_at "ev"
    refine itD (fun h => ?_) (fun h => ?_)
    · cases h
      walk_at "ev"
      refine evr_make (k_Member T .last) (by decide) ?_
      walk_at "ev"
      refine ⟨_, ⟨q, rfl, by show 1 ≤ q; exact q2 (fun h => nomatch h), rfl⟩, ?_⟩
      refine ⟨_, _, List.Perm.refl _, hln, ?_⟩
      exact ⟨by rw [he]; rfl, _, _, rfl⟩
    walk_at "ev"
    refine o2_eqK k .first rfl rfl ?_
    walk_at "ev"
    refine itD (fun h => ?_) (fun h => ?_)
    · cases h
      walk_at "ev"
      refine evr_make (k_Member T .first) (by decide) ?_
      walk_at "ev"
      refine ⟨_, ⟨q, rfl, by show 1 ≤ q; exact q2 (fun h => nomatch h), rfl⟩, ?_⟩
      refine ⟨_, _, List.Perm.refl _, hln, ?_⟩
      exact ⟨by rw [he]; rfl, _, _, rfl⟩
    walk_at "ev"
    refine o2_eqK k .limit rfl rfl ?_
    walk_at "ev"
    refine itN hk ?_
    have hd : k = .delay := by
      revert hk
      rename_i h1
      revert h1 h
      cases k <;> simp
    subst hd
    walk_at "ev"
    refine evr_make (k_Member T .delay) (by decide) ?_
    walk_at "ev"
    refine ⟨_, ⟨q, rfl, q0, rfl⟩, ?_⟩
    refine ⟨_, _, List.Perm.refl _, hln, ?_⟩
    exact ⟨by rw [he]; rfl, _, _, rfl⟩
  · rintro ρ' M' ⟨rfl, u, v, rfl⟩
    rw [List.length_map, List.take_length]
    refine st_frz (i := 1) rfl (List.Perm.refl _) ?_
    walk_at "ev"
    rfl
def preSome : List D → Mem → (D → Mem → Prop) → Prop := fun ds M R => ∃ (p : Addr) (s : Ds), ds = [.loc p] ∧ s.ok ∧ M = [(p, s.o)] ∧ R = fun d M' => ∃ (rs : List Rec) (s' : Ds), d = .lst (rcD rs) ∧ SmOk rs ∧ s'.ok ∧ M' = [(p, s'.o)]
theorem c_some (T : Tx K mg) : Cal P w K mg base 3 "_law_some" (spM K preSome) [] := by
  refine calD T.fn__law_some T.mg__law_some sc__law_some b__law_some (fun hr => d__law_some T hr) ?_ ?_
  · rintro ds M R ⟨p, s, rfl, _⟩; rfl
  rintro ds M R ⟨p, s, rfl, hs, rfl, rfl⟩
  unfold t__law_some
  walk_at "ev"
  intro f hf
  walk_at "ev"
  refine st_for (is := is2 2 3) (itr_seq (evr_callM (c_members T) (by decide) ?_))
  walk_at "ev"
  refine evr_callM (c_digit T) (by decide) ?_
  walk_at "ev"
  refine ⟨[(p, s.o)], [(f, .lst [])], _, List.Perm.swap _ _ _, ⟨p, s, 2, rfl, hs, by decide, by decide, rfl, rfl⟩, ?_⟩
  rintro d Ma ⟨n, s1, rfl, n0, n1, hs1, rfl⟩
  have hm : ∃ m : Int, 1 ≤ m ∧ m ≤ 12 ∧ L2.atI [D.int 5, .int 12] n = some (.int m) := by
    rcases (by omega : n = 0 ∨ n = 1) with rfl | rfl
    · exact ⟨5, by decide, by decide, rfl⟩
    · exact ⟨12, by decide, by decide, rfl⟩
  obtain ⟨m, m1, m2, em⟩ := hm
  refine o2_ix (.lst _) em ?_
  walk_at "ev"
  refine ⟨[(p, s1.o)], [(f, .lst [])], _, List.Perm.refl _, ⟨p, s1, 6, m, rfl, hs1, by decide, by decide, m1, by omega, rfl, rfl⟩, ?_⟩
  rintro d Ma ⟨rs, s2, rfl, hl, hr, hs2, rfl⟩
  have hl : rs.length ≤ 6 := hl
  refine ⟨_, _, .lst _, fun i ρ' M' => (∃ (qs : List Rec) (s' : Ds), s'.ok ∧ qs.length = i ∧ (∀ r ∈ qs, RkOk 12 r ∧ r.1 ≠ .limit) ∧ M'.Perm [(p, s'.o), (f, .lst (rcD qs))]) ∧ ∃ u v, ρ' = [some (.loc p), some (.loc f), u, v], ⟨⟨[], s2, hs2, rfl, (fun r hr => nomatch hr), List.Perm.refl _⟩, _, _, rfl⟩, ?_, ?_⟩
  · rintro i d ρ' M' hd ⟨⟨qs, s3, hs3, hlen, hqs, pm⟩, u, v, rfl⟩
    obtain ⟨hi, rfl⟩ := map_get (Kd.last, (0 : Int)) hd
    have hri := hr _ (getD_mem (Kd.last, (0 : Int)) hi)
    have hql : (rcD qs).length < 100000 := by rw [List.length_map]; omega
    generalize rs.getD i (Kd.last, (0 : Int)) = r at *
    obtain ⟨k, q⟩ := r
    obtain ⟨q0, q1, q2⟩ := hri
    have q0 : 0 ≤ q := q0
    have q1 : q ≤ m := q1
    have more : ∀ (k' : Kd), k' ≠ .limit → (k' ≠ .delay → k ≠ .delay) → ∀ r ∈ qs ++ [((k', q) : Rec)], RkOk 12 r ∧ r.1 ≠ .limit := fun k' h1 h2 r hr => by
      rcases List.mem_append.mp hr with hr | hr
      · exact hqs r hr
      · rw [List.mem_singleton.mp hr]; exact ⟨⟨q0, by show q ≤ 12; omega, fun h => q2 (h2 h)⟩, h1⟩
    show TgR _ _ K (.tup [.str k.str, .int q]) _ _
    refine tg_tup rfl (tgs_cons (tg_name (tgs_cons (tg_name (tgs_nil (StR.perm ?_ pm))))))
    walk_at "ev"
    refine ⟨⟨_, List.mem_cons_of_mem _ memH⟩, ?_⟩
    walk_at "ev"
    refine o2_neK k .limit rfl rfl ?_
    walk_at "ev"
    refine itnD (fun h => ?_) (fun h => ?_)
    · walk_at "ev"
      refine ⟨_, _, List.Perm.swap _ _ _, hql, ?_⟩
      refine ⟨⟨qs ++ [(k, q)], s3, hs3, by rw [List.length_append, hlen]; rfl, more k h (fun h => h), ?_⟩, _, _, rfl⟩
      rw [rcD_snoc]; exact List.Perm.swap _ _ _
    · walk_at "ev"
      refine evr_callM (c_digit T) (by decide) ?_
      walk_at "ev"
      refine ⟨[(p, s3.o)], [(f, .lst (rcD qs))], _, List.Perm.refl _, ⟨p, s3, 2, rfl, hs3, by decide, by decide, rfl, rfl⟩, ?_⟩
      rintro d Ma ⟨y, s4, rfl, y0, y1, hs4, rfl⟩
      have hk2 : ∃ k2 : Kd, k2 ≠ .limit ∧ L2.atI [D.str "last", .str "first"] y = some (.str k2.str) := by
        rcases (by omega : y = 0 ∨ y = 1) with rfl | rfl
        · exact ⟨.last, by decide, rfl⟩
        · exact ⟨.first, by decide, rfl⟩
      obtain ⟨k2, hk2, ek⟩ := hk2
      refine o2_ix (.lst _) ek ?_
      walk_at "ev"
      refine ⟨_, _, List.Perm.swap _ _ _, hql, ?_⟩
      refine ⟨⟨qs ++ [(k2, q)], s4, hs4, by rw [List.length_append, hlen]; rfl, more k2 hk2 (fun _ => by rw [h]; decide), ?_⟩, _, _, rfl⟩
      rw [rcD_snoc]; exact List.Perm.swap _ _ _
  · rintro ρ' M' ⟨⟨qs, s3, hs3, hlen, hqs, pm⟩, u, v, rfl⟩
    rw [List.length_map] at hlen
    refine st_frz (i := 1) rfl (pm.trans (List.Perm.swap _ _ _)) ?_
    walk_at "ev"
    exact ⟨qs, s3, rfl, ⟨by omega, hqs⟩, hs3, rfl⟩
def sTurned : List D → D → Prop := fun ds d => ∃ rs : List Rec, ds = [.lst (rcD rs)] ∧ rs.length ≤ 1000 ∧ (∀ r ∈ rs, r.1 ≠ .limit) ∧ d = .lst (rcD (rs.map turnR))
def turnK : List (Key × D) := [(.inr "last", .str "first"), (.inr "first", .str "last"), (.inr "delay", .str "delay")]
theorem turn_key (k : Kd) (hk : k ≠ .limit) : valD turnK (.inr k.str) = some (.str k.turn.str) := by
  cases k with
  | limit => exact absurd rfl hk
  | last => rfl
  | first => rfl
  | delay => rfl
theorem c_turned (T : Tx K mg) : Cal P w K mg base 1 "_law_turned" (spD K sTurned) [] := by
  refine calD T.fn__law_turned T.mg__law_turned sc__law_turned b__law_turned (fun hr => d__law_turned T hr) (pureP_len ?_) ?_
  · rintro ds d ⟨rs, rfl, _⟩; rfl
  rintro ds M R ⟨rfl, d, ⟨rs, rfl, hl, hr, rfl⟩, rfl⟩
  unfold t__law_turned
  walk_at "ev"
  refine evr_disp fun p hp => ?_
  refine tpr_cons (evr_str (evr_str (tpr_cons (evr_str (evr_str (tpr_cons (evr_str (evr_str (tpr_nil ?_)))))))))
  refine ⟨turnK, rfl, rfl, by decide, ?_⟩
  rw [show mergeD [] turnK = turnK from rfl]
  walk_at "ev"
  refine evr_lcm (α := Rec) (is := is2 2 3) (by decide) (itr_seq ?_)
  walk_at "ev"
  refine ⟨_, _, .lst _, rs, Enc.en, fun r => Enc.en (turnR r), rfl, by omega, ?_, ?_⟩
  · rintro ⟨k, q⟩ hx
    show TgR _ _ K (.tup [.str k.str, .int q]) _ _
    walk_at "ev"
    refine evr_dget ?_
    walk_at "ev"
    have hki := KeyIn.k turnK (.inr k.str)
    rw [turn_key k (hr _ hx)] at hki
    refine ⟨_, .dK turnK, _, _, rfl, memH, hki, ?_⟩
    walk_at "ev"
    exact ⟨rfl, rfl⟩
  · show D.lst _ = D.lst _
    rw [rcD, List.map_map]; rfl
end

/-! #### W17 -/
section
variable {P : Program} {w : World} {K : PySem.W.Frag} {mg : Str → Option Value} {base : Heap}
/-- a stream: it rises, each gap at most 12 -/
def Steps (ts : List Int) : Prop := ∀ i, i + 1 < ts.length → 1 ≤ ts.getD (i + 1) 0 - ts.getD i 0 ∧ ts.getD (i + 1) 0 - ts.getD i 0 ≤ 12
def StrOk (ts : List Int) : Prop := ts.length ≤ 12 ∧ Steps ts
theorem Steps.up {ts : List Int} (h : Steps ts) : Up ts := fun i hi => by have := h i hi; omega
theorem getD_last {xs : List Int} {y : Int} : (xs ++ [y]).getD xs.length 0 = y := by
  rw [List.getD_eq_getElem?_getD, List.getElem?_append_right (Nat.le_refl _), Nat.sub_self]; rfl
theorem steps_snoc {xs : List Int} {t d : Int} (h : Steps (xs ++ [t])) (h1 : 1 ≤ d) (h2 : d ≤ 12) : Steps ((xs ++ [t]) ++ [t + d]) := by
  intro i hi
  rw [List.length_append] at hi
  have hi : i + 1 < (xs ++ [t]).length + 1 := hi
  rcases Nat.lt_or_ge (i + 1) (xs ++ [t]).length with c | c
  · have q1 : ((xs ++ [t]) ++ [t + d]).getD (i + 1) 0 = (xs ++ [t]).getD (i + 1) 0 := getD_app1 c
    have q2 : ((xs ++ [t]) ++ [t + d]).getD i 0 = (xs ++ [t]).getD i 0 := getD_app1 (by omega)
    rw [q1, q2]
    exact h i c
  · have e : i + 1 = (xs ++ [t]).length := by omega
    have e2 : i = xs.length := by rw [List.length_append] at e; exact Nat.succ.inj e
    have q1 : ((xs ++ [t]) ++ [t + d]).getD (i + 1) 0 = t + d := by rw [e]; exact getD_last
    have q2 : ((xs ++ [t]) ++ [t + d]).getD i 0 = t := by
      have q3 : ((xs ++ [t]) ++ [t + d]).getD i 0 = (xs ++ [t]).getD i 0 := getD_app1 (by omega)
      rw [q3, e2]; exact getD_last
    rw [q1, q2]; omega
theorem steps_init {xs : List Int} {t : Int} (h : Steps (xs ++ [t])) : Steps xs := fun i hi => by
  have := h i (by rw [List.length_append]; show i + 1 < xs.length + 1; omega)
  rw [getD_app1 hi, getD_app1 (by omega)] at this
  exact this
def preStream : List D → Mem → (D → Mem → Prop) → Prop := fun ds M R => ∃ (p : Addr) (s : Ds) (gs : List Int), ds = [.loc p, .int 12, .lst (inD gs)] ∧ s.ok ∧ gs.length = 6 ∧ (∀ g ∈ gs, 1 ≤ g ∧ g ≤ 12) ∧ M = [(p, s.o)] ∧
  R = fun d M' => ∃ (ts : List Int) (s' : Ds), d = .lst (inD ts) ∧ StrOk ts ∧ s'.ok ∧ M' = [(p, s'.o)]
theorem c_stream (T : Tx K mg) : Cal P w K mg base 2 "_law_stream" (spM K preStream) [] := by
  refine calD T.fn__law_stream T.mg__law_stream sc__law_stream b__law_stream (fun hr => d__law_stream T hr) ?_ ?_
  · rintro ds M R ⟨p, s, gs, rfl, _⟩; rfl
  rintro ds M R ⟨p, s, gs, rfl, hs, hgl, hg, rfl, rfl⟩
  unfold t__law_stream
  refine st_seq (st_par (ear_c (evr_lstO (ear_nil ⟨Nat.zero_le _, fun f hf => ?_⟩))))
  walk_at "ev"
  refine evr_callM (c_digit T) (by decide) ?_
  walk_at "ev"
  refine ⟨[(p, s.o)], [(f, .lst [])], _, List.Perm.swap _ _ _, ⟨p, s, 41, rfl, hs, by decide, by decide, rfl, rfl⟩, ?_⟩
  rintro d Ma ⟨n, s1, rfl, n0, n1, hs1, rfl⟩
  walk_at "ev"
  refine st_for (is := [5]) (itr_rng1 (ear_c (evr_callM (c_digit T) (by decide) ?_)))
  walk_at "ev"
  refine ⟨[(p, s1.o)], [(f, .lst [])], _, List.Perm.refl _, ⟨p, s1, 12 + 1, rfl, hs1, by decide, by decide, rfl, rfl⟩, ?_⟩
  rintro d Ma ⟨x, s2, rfl, x0, x1, hs2, rfl⟩
  walk_at "ev"
  refine ⟨⟨by omega, by omega⟩, ?_⟩
  refine ⟨fun i ρ' M' => ∃ (ts : List Int) (t : Int) (s' : Ds), s'.ok ∧ ts.length = i ∧ Steps (ts ++ [t]) ∧ M'.Perm [(p, s'.o), (f, .lst (inD ts))] ∧ ∃ u, ρ' = [some (.loc p), some (.int 12), some (.lst (inD gs)), some (.loc f), some (.int t), u], ⟨[], n - 20, s2, hs2, rfl, (fun i hi => absurd hi (by show ¬ i + 1 < 1; omega)), List.Perm.refl _, _, rfl⟩, ?_, ?_⟩
  · rintro i d ρ' M' hd ⟨ts, t, s3, hs3, hlen, hst, pm, u, rfl⟩
    obtain ⟨hi, rfl⟩ := rgD_get.mp hd
    refine tg_name (StR.perm ?_ (pm.trans (List.Perm.swap _ _ _)))
    walk_at "ev"
    · rw [List.length_map]; omega
    walk_at "ev"
    refine evr_callM (c_digit T) (by decide) ?_
    walk_at "ev"
    rw [List.length_map]
    walk_at "ev"
    refine ⟨[(p, s3.o)], [(f, .lst (inD (ts ++ [t])))], _, ?_, ⟨p, s3, (gs.length : Int), rfl, hs3, by omega, by omega, rfl, rfl⟩, ?_⟩
    · rw [inD_snoc]; exact List.Perm.swap _ _ _
    rintro d Ma ⟨y, s4, rfl, y0, y1, hs4, rfl⟩
    refine o2_ixI y.toNat (by omega) (by omega) ?_
    have hgy := hg _ (getD_mem (xs := gs) (i := y.toNat) 0 (by omega))
    walk_at "ev"
    exact ⟨ts ++ [t], t + gs.getD y.toNat 0, s4, hs4, by rw [List.length_append, hlen]; rfl, steps_snoc hst hgy.1 hgy.2, List.Perm.refl _, _, rfl⟩
  · rintro ρ' M' ⟨ts, t, s3, hs3, hlen, hst, pm, u, rfl⟩
    rw [rgD_length] at hlen
    refine st_frz (i := 3) rfl (pm.trans (List.Perm.swap _ _ _)) ?_
    walk_at "ev"
    exact ⟨ts, s3, rfl, ⟨by omega, steps_init hst⟩, hs3, rfl⟩
/-! ### told, and told of the mirror -/
abbrev I3 := T3 Int Int Int
def t3 (x : Int × Int × Int) : I3 := ⟨x.1, x.2.1, x.2.2⟩
theorem rv_D (s : List Int) : inD (rv s) = s.reverse.map fun t => D.int (0 - t) := by unfold rv; rw [inD, List.map_map]; rfl
def sNumbersRight (K : PySem.W.Frag) : List D → D → Prop := fun ds d => ∃ (ms : List Mb) (s : List Int), ds = [rowD K ms, rowD K (turnMs ms), .lst (inD s)] ∧ NoL ms ∧ ms.length ≤ 100 ∧ Up s ∧ s.length ≤ 100 ∧ d = .bl true
theorem told_cond (ms : List Mb) (s : List Int) (hl : NoL ms) (hm : ms.length ≤ 100000) (hu : Up s) (hn : s.length ≤ 90000) : sToldEvents K [rowD K ms, .lst (inD s)] (.lst ((toldM ms s).map (toldD K))) := by
  have hv := vinv_fold s ms _ hl (vinv_0 s)
  refine ⟨ms, s, rfl, hl, hm, hu, hn, told_ok ms s hl, hv.ok, fun v hvl => ?_, rfl⟩
  exact hd_some hv.ok.2.2.1 (hv.all v hvl)
theorem c_numbers_right (T : Tx K mg) : Cal P w K mg base 4 "_law_numbers_right" (spD K (sNumbersRight K)) [] := by
  refine calD T.fn__law_numbers_right T.mg__law_numbers_right sc__law_numbers_right b__law_numbers_right (fun hr => d__law_numbers_right T hr) (pureP_len ?_) ?_
  · rintro ds d ⟨ms, s, rfl, _⟩; rfl
  rintro ds M R ⟨rfl, d, ⟨ms, s, rfl, hl, hm, hu, hn, rfl⟩, rfl⟩
  unfold t__law_numbers_right
  have hdual := told_dual ms s hl
  have hlen : (toldM ms s).length ≤ 100 := by
    rw [toldM_len]
    exact Nat.le_trans (vinv_fold s ms _ hl (vinv_0 s)).ok.2.1 hn
  refine st_seq (st_asg (is := is2 3 4) (evr_tup (ear_c (evr_lcm (α := Int) (is := [8]) (by decide) (itr_seq ?_)))))
  walk_at "ev"
  refine ⟨_, .lst _, ?_⟩
  refine ⟨_, _, .lst _, s.reverse, .int, fun t => .int (0 - t), by rw [inD, List.map_reverse], by rw [List.length_reverse]; omega, ?_, ?_⟩
  · intro t ht
    walk_at "ev"
    exact ⟨rfl, rfl⟩
  rw [← rv_D]
  walk_at "ev"
  rw [List.length_map]
  refine evr_call (c_told_events T) (by decide) ?_
  walk_at "ev"
  refine ⟨_, told_cond ms s hl (by omega) hu (by omega), ?_⟩
  walk_at "ev"
  refine evr_call (c_told_events T) (by decide) ?_
  walk_at "ev"
  refine ⟨_, told_cond (turnMs ms) (rv s) (noL_turn hl) (by rw [turn_len]; omega) (rv_up hu) (by rw [rv_len]; omega), ?_⟩
  walk_at "ev"
  have hlen2 : (toldM (turnMs ms) (rv s)).length ≤ 100 := by
    have := congrArg List.length hdual
    rw [List.length_map, List.length_map, List.length_reverse] at this
    omega
  generalize toldM ms s = a at *
  generalize toldM (turnMs ms) (rv s) = b at *
  refine evr_lcm (α := Nat × Int × Nat × Nat) (is := [9]) (by decide) (itr_seq ?_)
  walk_at "ev"
  refine ⟨_, .lst _, ?_⟩
  refine ⟨_, _, .lst _, a.reverse, toldD K, fun x => Enc.en (t3 (tripR s.length x)), by rw [List.map_reverse], by rw [List.length_reverse]; omega, ?_, ?_⟩
  · intro x hx
    walk_at "ev"
    exact ⟨rfl, rfl⟩
  walk_at "ev"
  refine evr_lcm (α := Nat × Int × Nat × Nat) (is := [9]) (by decide) (itr_seq ?_)
  walk_at "ev"
  refine ⟨_, _, .lst _, b, toldD K, fun x => Enc.en (t3 (tripD x)), rfl, by omega, ?_, ?_⟩
  · intro x hx
    walk_at "ev"
    exact ⟨rfl, rfl⟩
  walk_at "ev"
  refine o2_eqE (b.map fun x => t3 (tripD x)) (a.reverse.map fun x => t3 (tripR s.length x)) ?_ ?_ ?_
  · show D.lst _ = D.lst _
    rw [List.map_map]; rfl
  · show D.lst _ = D.lst _
    rw [List.map_map]; rfl
  have e : b.map (fun x => t3 (tripD x)) = a.reverse.map fun x => t3 (tripR s.length x) := by
    have := congrArg (List.map t3) hdual
    rw [List.map_map, List.map_map] at this
    exact this
  show D.bl _ = D.bl true
  rw [decide_eq_true e]
end

/-! #### W18 -/
section
variable {P : Program} {w : World} {K : PySem.W.Frag} {mg : Str → Option Value} {base : Heap}
theorem steps_mono {s : List Int} (h : Steps s) : ∀ {b a : Nat}, a ≤ b → b < s.length → s.getD a 0 ≤ s.getD b 0 ∧ s.getD b 0 - s.getD a 0 ≤ 12 * ((b - a : Nat) : Int)
  | 0, a, h1, _ => by rw [Nat.le_zero.mp h1]; exact ⟨Int.le_refl _, by omega⟩
  | b + 1, a, h1, h2 => by
    rcases Nat.lt_or_ge a (b + 1) with c | c
    · obtain ⟨i1, i2⟩ := steps_mono h (show a ≤ b by omega) (by omega)
      have := h b h2
      exact ⟨by omega, by omega⟩
    · rw [show a = b + 1 by omega]; exact ⟨Int.le_refl _, by omega⟩
def timesK (ms : List Mb) (s : List Int) : List Int := (keptNums ms s).map fun n => s.getD n 0 + late ms
theorem map_getD {α : Type} {f : Nat → Int} {xs : List Nat} {i : Nat} (h : i < xs.length) : (xs.map f).getD i 0 = f (xs.getD i 0) := by
  rw [List.getD_eq_getElem?_getD, List.getElem?_map, List.getElem?_eq_getElem h, List.getD_eq_getElem?_getD, List.getElem?_eq_getElem h]; rfl
theorem grq_turn (rs : List Rec) : grq (rs.map turnR) = grq rs := by
  unfold grq
  rw [List.foldl_map]; rfl
/-- all that is asked of the times -/
structure PastF (ms : List Mb) (s : List Int) : Prop where
  pos : 0 < (timesK ms s).length
  len : (timesK ms s).length ≤ 12
  gap : ∀ i, i + 1 < (timesK ms s).length → 1 ≤ (timesK ms s).getD (i + 1) 0 - (timesK ms s).getD i 0 ∧ grq (recsOf ms) ≤ (timesK ms s).getD (i + 1) 0 - (timesK ms s).getD i 0
  lo : ∀ i, i < (timesK ms s).length → s.getD 0 0 ≤ (timesK ms s).getD i 0 - late ms
  hi : ∀ i, i < (timesK ms s).length → (timesK ms s).getD i 0 - late ms ≤ s.getD (s.length - 1) 0
theorem past_f {ms : List Mb} {s : List Int} (hl : NoL ms) (hs : StrOk s) (h0 : 0 < s.length) : PastF ms s := by
  obtain ⟨hn, hst⟩ := hs
  have hu := hst.up
  obtain ⟨f1, f2⟩ := foldN s ms
  have f1 : ∀ x ∈ keptNums ms s, x < s.length := f1
  have f2 : (keptNums ms s).length ≤ s.length := f2
  obtain ⟨g1, g2⟩ := far_fold s ms _ hl (far_range hu)
  have g1 : Far s 1 (keptNums ms s) := g1
  have g2 : ∀ m ∈ ms, m.k ≠ .delay → Far s m.q (keptNums ms s) := g2
  have hlen : (timesK ms s).length = (keptNums ms s).length := List.length_map _
  have get : ∀ i, i < (keptNums ms s).length → (timesK ms s).getD i 0 = s.getD ((keptNums ms s).getD i 0) 0 + late ms := fun i hi => map_getD (α := Nat) hi
  refine ⟨by rw [hlen]; exact keptNums_ne s h0 ms hl, by omega, fun i hi => ?_, fun i hi => ?_, fun i hi => ?_⟩
  · rw [get i (by omega), get (i + 1) (by omega)]
    have h1 := (getD_far g1 (show i < i + 1 by omega) (by omega)).2
    refine ⟨by omega, grq_le (by omega) fun r hr => ?_⟩
    obtain ⟨m, hm, e1, e2, e3⟩ := rec_of ms r hr
    have h2 := (getD_far (g2 m hm e3) (show i < i + 1 by omega) (by omega)).2
    rw [← e2]; omega
  · rw [get i (by omega)]
    have := f1 _ (getD_mem (xs := keptNums ms s) (i := i) 0 (by omega))
    have := (steps_mono hst (Nat.zero_le _) this).1
    omega
  · rw [get i (by omega)]
    have := f1 _ (getD_mem (xs := keptNums ms s) (i := i) 0 (by omega))
    have := (steps_mono hst (show (keptNums ms s).getD i 0 ≤ s.length - 1 by omega) (by omega)).1
    omega
theorem late_in {rs : List Rec} (h : ∀ r ∈ rs, r.1 ≠ .limit) : ((rs.filter fun r => decide (r.1 ∈ [Kd.last, .delay])).map fun r => r.2).sum = late (msOf rs) ∧ ((rs.filter fun r => decide (r.1 ∈ [Kd.first, .delay])).map fun r => r.2).sum = late (turnMs (msOf rs)) := by
  induction rs with
  | nil => exact ⟨rfl, rfl⟩
  | cons r rs ih =>
    obtain ⟨i1, i2⟩ := ih fun x hx => h x (List.mem_cons_of_mem _ hx)
    obtain ⟨k, q⟩ := r
    have e1 : late (msOf ((k, q) :: rs)) = wt ⟨k, q⟩ + late (msOf rs) := rfl
    have e2 : late (turnMs (msOf ((k, q) :: rs))) = wt ⟨k.turn, q⟩ + late (turnMs (msOf rs)) := rfl
    rw [e1, e2, ← i1, ← i2, List.filter_cons, List.filter_cons]
    have hk := h _ (List.mem_cons_self ..)
    cases k with
    | limit => exact absurd rfl hk
    | last =>
      rw [if_pos (by simp), if_neg (by simp), List.map_cons, List.sum_cons]
      exact ⟨rfl, by show _ = 0 + _; rw [Int.zero_add]⟩
    | first =>
      rw [if_neg (by simp), if_pos (by simp), List.map_cons, List.sum_cons]
      exact ⟨by show _ = 0 + _; rw [Int.zero_add], rfl⟩
    | delay =>
      rw [if_pos (by simp), if_pos (by simp), List.map_cons, List.sum_cons, List.map_cons, List.sum_cons]
      exact ⟨rfl, rfl⟩
theorem sm_ms {rs : List Rec} (h : SmOk rs) : NoL (msOf rs) ∧ (msOf rs).length ≤ 6 ∧ ∀ m ∈ msOf rs, m.q ≤ 12 := by
  refine ⟨fun m hm => ?_, by unfold msOf; rw [List.length_map]; exact h.1, fun m hm => ?_⟩
  · obtain ⟨r, hr, rfl⟩ := List.mem_map.mp hm
    exact (h.2 r hr).2
  · obtain ⟨r, hr, rfl⟩ := List.mem_map.mp hm
    exact (h.2 r hr).1.2.1
def sPastsRight (K : PySem.W.Frag) : List D → D → Prop := fun ds d => ∃ (rs : List Rec) (s : List Int), ds = [rowD K (msOf rs), rowD K (turnMs (msOf rs)), .lst (rcD rs), .lst (inD s)] ∧ SmOk rs ∧ StrOk s ∧ 0 < s.length ∧ d = .bl true
theorem c_pasts_right (T : Tx K mg) : Cal P w K mg base 5 "_law_pasts_right" (spD K (sPastsRight K)) [] := by
  refine calD T.fn__law_pasts_right T.mg__law_pasts_right sc__law_pasts_right b__law_pasts_right (fun hr => d__law_pasts_right T hr) (pureP_len ?_) ?_
  · rintro ds d ⟨rs, s, rfl, _⟩; rfl
  rintro ds M R ⟨rfl, d, ⟨rs, s, rfl, ok, hs, h0, rfl⟩, rfl⟩
  unfold t__law_pasts_right
  obtain ⟨hl, hm, hq⟩ := sm_ms ok
  have hlt := noL_turn hl
  obtain ⟨la1, la2⟩ := late_in (fun r hr => (ok.2 r hr).2)
  have pf := past_f hl hs h0
  obtain ⟨⟨_, rb⟩, _⟩ := recs_b hl (by omega) (fun m hm => by have := hq m hm; omega)
  have rl := recs_len (msOf rs)
  have hrl : rs.length ≤ 6 := ok.1
  have sum1 : ∀ (ks : List Kd) (ρ : Sl) (R : D → Mem → Prop), ρ[2]? = some (some (.lst (rcD rs))) → 12 < ρ.length → R (.int ((rs.filter fun r => decide (r.1 ∈ ks)).map fun r => r.2).sum) [] → ∀ te : TE, (∀ ρ2 M R, EvR K te ρ2 M R ↔ True) → True := fun _ _ _ _ _ _ _ _ => trivial
  clear sum1
  walk_at "ev"
  refine evr_lcf (α := Rec) (is := is2 11 12) (by decide) (itr_seq ?_)
  walk_at "ev"
  refine ⟨_, _, .lst _, rs, Enc.en, fun r => .int r.2, fun r => decide (r.1 ∈ [Kd.last, .delay]), rfl, by omega, ?_, ?_⟩
  · rintro ⟨k, q⟩ hx
    show TgR _ _ K (.tup [.str k.str, .int q]) _ _
    walk_at "ev"
    refine o2_inK (i := k) (ns := [.last, .delay]) rfl rfl ?_
    walk_at "ev"
    refine ⟨rfl, rfl, fun _ => ?_⟩
    walk_at "ev"
    exact ⟨rfl, rfl⟩
  walk_at "ev"
  refine ol_sum (ns := (rs.filter fun r => decide (r.1 ∈ [Kd.last, .delay])).map fun r => r.2) (by rw [List.map_map]; exact .lst _) ?_
  rw [la1]
  walk_at "ev"
  refine evr_lcf (α := Rec) (is := is2 11 12) (by decide) (itr_seq ?_)
  walk_at "ev"
  refine ⟨_, _, .lst _, rs, Enc.en, fun r => .int r.2, fun r => decide (r.1 ∈ [Kd.first, .delay]), rfl, by omega, ?_, ?_⟩
  · rintro ⟨k, q⟩ hx
    show TgR _ _ K (.tup [.str k.str, .int q]) _ _
    walk_at "ev"
    refine o2_inK (i := k) (ns := [.first, .delay]) rfl rfl ?_
    walk_at "ev"
    refine ⟨rfl, rfl, fun _ => ?_⟩
    walk_at "ev"
    exact ⟨rfl, rfl⟩
  walk_at "ev"
  refine ol_sum (ns := (rs.filter fun r => decide (r.1 ∈ [Kd.first, .delay])).map fun r => r.2) (by rw [List.map_map]; exact .lst _) ?_
  rw [la2]
  generalize msOf rs = ms at *
  walk_at "ev"
  refine evr_call (c_told_times T) (by decide) ?_
  walk_at "ev"
  refine ⟨_, ⟨ms, s, rfl, hl, by omega, hs.2.up, by have := hs.1; omega, rfl⟩, ?_⟩
  rw [show ((keptNums ms s).map fun n => s.getD n 0 + late ms) = timesK ms s from rfl]
  obtain ⟨t0, tl, tg, tlo, thi⟩ := pf
  generalize timesK ms s = ts at *
  walk_at "ev"
  refine evr_lcm (α := Int) (is := [13]) (by decide) (itr_seq ?_)
  walk_at "ev"
  refine ⟨_, _, .lst _, ts, .int, fun t => .int (t - late ms), rfl, by omega, ?_, ?_⟩
  · intro t ht
    walk_at "ev"
    exact ⟨rfl, rfl⟩
  walk_at "ev"
  refine o2_ixI 0 rfl h0 ?_
  walk_at "ev"
  refine o2_ix (.lst _) (atI_last (getLast_getD h0)) ?_
  walk_at "ev"
  refine evr_lcm (α := Int) (is := [13]) (by decide) (itr_seq ?_)
  walk_at "ev"
  refine ⟨_, .lst _, ?_⟩
  refine ⟨_, _, .lst _, ts.reverse, fun t => .int (t - late ms), fun t => .int (late (turnMs ms) - (t - late ms)), by rw [List.map_reverse], by rw [List.length_reverse]; omega, ?_, ?_⟩
  · intro t ht
    walk_at "ev"
    exact ⟨rfl, rfl⟩
  rw [show ts.reverse.map (fun t => D.int (late (turnMs ms) - (t - late ms))) = inD (mirT (late (turnMs ms)) (late ms) ts) by unfold mirT; rw [inD, List.map_map]; rfl]
  have ml := mirT_len (late (turnMs ms)) (late ms) ts
  have mg := fun i (h : i < ts.length) => mirT_get (late (turnMs ms)) (late ms) (ts := ts) (i := i) h
  have upT : Up ts := fun i hi => by have := (tg i hi).1; omega
  have gapM : ∀ i, i + 1 < ts.length → (mirT (late (turnMs ms)) (late ms) ts).getD (i + 1) 0 - (mirT (late (turnMs ms)) (late ms) ts).getD i 0 = ts.getD (ts.length - 2 - i + 1) 0 - ts.getD (ts.length - 2 - i) 0 := fun i hi => by
    rw [mg i (by omega), mg (i + 1) hi, show ts.length - 1 - (i + 1) = ts.length - 2 - i by omega, show ts.length - 1 - i = ts.length - 2 - i + 1 by omega]
    omega
  have upM : Up (mirT (late (turnMs ms)) (late ms) ts) := fun i hi => by
    rw [ml] at hi
    have h1 := gapM i hi
    have h2 := (tg (ts.length - 2 - i) (by omega)).1
    omega
  have canT : canTell ms ts = true := List.all_eq_true.mpr fun i hi => decide_eq_true (tg i (by have := List.mem_range.mp hi; omega)).2
  have canM : canTell (turnMs ms) (mirT (late (turnMs ms)) (late ms) ts) = true := List.all_eq_true.mpr fun i hi => decide_eq_true (by
    have hi := List.mem_range.mp hi
    rw [ml] at hi
    rw [gapM i (by omega), recs_turn, grq_turn]
    exact (tg (ts.length - 2 - i) (by omega)).2)
  walk_at "ev"
  refine evr_call (c_can_tell T) (by decide) ?_
  walk_at "ev"
  refine ⟨_, ⟨ms, ts, rfl, hl, by omega, upT, by omega, rfl⟩, ?_⟩
  walk_at "ev"
  rw [canT]
  walk_at "ev"
  refine evr_call (c_can_tell T) (by decide) ?_
  walk_at "ev"
  refine ⟨_, ⟨turnMs ms, _, rfl, hlt, by rw [turn_len]; omega, upM, by rw [ml]; omega, rfl⟩, ?_⟩
  walk_at "ev"
  rw [canM]
  walk_at "ev"
  obtain ⟨w1, w2⟩ := steps_mono hs.2 (Nat.zero_le (s.length - 1)) (by omega)
  have hsl := hs.1
  have b0 := tlo 0 t0
  have b1 := thi 0 t0
  have b2 := tlo (ts.length - 1) (by omega)
  have b3 := thi (ts.length - 1) (by omega)
  obtain ⟨size, esz⟩ : ∃ size : Nat, s.getD (s.length - 1) 0 + 3 - (s.getD 0 0 - 2) = (size : Int) := ⟨(s.getD (s.length - 1) 0 + 3 - (s.getD 0 0 - 2)).toNat, by omega⟩
  obtain ⟨i, ei⟩ : ∃ i : Nat, ts.getD 0 0 - late ms - (s.getD 0 0 - 2) = (i : Int) := ⟨(ts.getD 0 0 - late ms - (s.getD 0 0 - 2)).toNat, by omega⟩
  obtain ⟨j, ej⟩ : ∃ j : Nat, s.getD (s.length - 1) 0 + 3 - ts.getD (ts.length - 1) 0 + late ms = (j : Int) := ⟨(s.getD (s.length - 1) 0 + 3 - ts.getD (ts.length - 1) 0 + late ms).toNat, by omega⟩
  have fw : FwOk size (recsOf ms) := fw_ok (by omega) (by omega)
  have fw2 : FwOk size ((recsOf ms).map turnR) := fw_ok (by omega) (by rw [List.length_map]; omega)
  have gs : ∀ k, k + 1 < ts.length → (ts.getD (k + 1) 0 - ts.getD k 0).toNat ≤ size := fun k hk => by
    have := thi (k + 1) hk
    have := tlo k (by omega)
    omega
  refine evr_call (c_count_pasts T) (by decide) ?_
  walk_at "ev"
  refine ⟨_, ⟨ms, ts, _, _, size, i, j, rfl, hl, by omega, upT, t0, by omega, esz, by omega, ei, ej, by omega, by omega, fun r hr => ⟨by have := rb r hr; omega, (rb r hr).2.2⟩, fw, gs, rfl⟩, ?_⟩
  refine evr_call (c_count_pasts T) (by decide) ?_
  walk_at "ev"
  have m0 := mg 0 t0
  have m1 := mg (ts.length - 1) (by omega)
  rw [Nat.sub_zero] at m0
  rw [Nat.sub_self] at m1
  refine ⟨_, ⟨turnMs ms, _, _, _, size, j, i, rfl, hlt, by rw [turn_len]; omega, upM, by rw [ml]; omega, by rw [ml]; omega, by omega, by omega, by rw [m0]; omega, by rw [ml, m1]; omega, by omega, by omega, fun r hr => ?_, by rw [recs_turn]; exact fw2, fun k hk => ?_, rfl⟩, ?_⟩
  · rw [recs_turn] at hr
    obtain ⟨u, hu, rfl⟩ := List.mem_map.mp hr
    obtain ⟨u1, u2, u3⟩ := rb u hu
    refine ⟨by show 1 ≤ u.2; omega, ?_⟩
    show u.1.turn = .last ∨ u.1.turn = .first
    rcases u3 with e | e <;> rw [e]
    · exact .inr rfl
    · exact .inl rfl
  · rw [ml] at hk
    rw [gapM k hk]
    exact gs _ (by omega)
  rw [recs_turn, cp_mir]
  walk_at "ev"
  show D.bl _ = D.bl true
  rw [decide_eq_true rfl]
end

/-! #### W19 -/
section
variable {P : Program} {w : World} {K : PySem.W.Frag} {mg : Str → Option Value} {base : Heap}
def GsOk (gs : List Int) : Prop := gs.length ≤ 3 ∧ ∀ g ∈ gs, 1 ≤ g ∧ g ≤ 9
theorem GsOk.pos {gs : List Int} (h : GsOk gs) : Pos1 gs := fun g hg => (h.2 g hg).1
theorem GsOk.sum {gs : List Int} (h : GsOk gs) : 0 ≤ gs.sum ∧ gs.sum ≤ 27 := by
  have key : ∀ gs : List Int, (∀ g ∈ gs, 1 ≤ g ∧ g ≤ 9) → 0 ≤ gs.sum ∧ gs.sum ≤ 9 * (gs.length : Int) := by
    intro gs
    induction gs with
    | nil => intro _; exact ⟨Int.le_refl _, Int.le_refl _⟩
    | cons g gs ih =>
      intro h
      have := ih fun x hx => h x (List.mem_cons_of_mem _ hx)
      have := h g (List.mem_cons_self ..)
      rw [List.sum_cons, List.length_cons]
      constructor <;> omega
  have := key gs h.2
  have := h.1
  constructor <;> omega
theorem GsOk.snoc {gs : List Int} {g : Int} (h : GsOk gs) (hl : gs.length < 3) (h1 : 1 ≤ g) (h2 : g ≤ 9) : GsOk (gs ++ [g]) := ⟨by rw [List.length_append]; show gs.length + 1 ≤ 3; omega, fun x hx => by
  rcases List.mem_append.mp hx with hx | hx
  · exact h.2 x hx
  · rw [List.mem_singleton.mp hx]; exact ⟨h1, h2⟩⟩
/-- one of the three lists is drawn -/
theorem draw_gaps (T : Tx K mg) {j : Nat} (hj : 1 < j) {Mr M : Mem} {p x : Addr} {s : Ds} {u1 u2 u3 u4 u5 u6 u8 : Option D} {us : Sl} {Q : Post} (hs : s.ok) (pm : M.Perm ((p, s.o) :: (x, .lst []) :: Mr))
    (h : ∀ (s' : Ds) (gs : List Int) u M', s'.ok → GsOk gs → M'.Perm ((p, s'.o) :: (x, .lst (inD gs)) :: Mr) → Q.nx (some (.loc p) :: u1 :: u2 :: u3 :: u4 :: u5 :: u6 :: some (.loc x) :: u :: us) M') :
    StR K (tFor (iRng1 (tCons (tOp (rAddX K) (tC (.int 1)) (tCallX P w K mg base j "_law_digit" (tCons (tVar 0) (tCons (tC (.int 3)) tNil)))) tNil)) (gName 8) (tDrop (tBM K "list" rAppend (tVar 7) (tCons (tOp (rAddX K) (tC (.int 1)) (tCallX P w K mg base j "_law_digit" (tCons (tVar 0) (tCons (tC (.int 9)) tNil)))) tNil)))) (some (.loc p) :: u1 :: u2 :: u3 :: u4 :: u5 :: u6 :: some (.loc x) :: u8 :: us) M Q := by
  refine StR.perm ?_ pm
  refine st_for (is := [8]) (itr_rng1 (ear_c ?_))
  walk_at "ev"
  refine evr_callM (c_digit T) (by omega) ?_
  walk_at "ev"
  refine ⟨[(p, s.o)], _, _, List.Perm.refl _, ⟨p, s, 3, rfl, hs, by decide, by decide, rfl, rfl⟩, ?_⟩
  rintro d Ma ⟨n, s1, rfl, n0, n1, hs1, rfl⟩
  walk_at "ev"
  refine ⟨⟨by omega, by omega⟩, ?_⟩
  refine ⟨fun i ρ' M' => (∃ (gs : List Int) (s' : Ds), s'.ok ∧ gs.length = i ∧ GsOk gs ∧ M'.Perm ((p, s'.o) :: (x, .lst (inD gs)) :: Mr)) ∧ ∃ u, ρ' = some (.loc p) :: u1 :: u2 :: u3 :: u4 :: u5 :: u6 :: some (.loc x) :: u :: us, ⟨⟨[], s1, hs1, rfl, ⟨by decide, fun g hg => nomatch hg⟩, List.Perm.refl _⟩, _, rfl⟩, ?_, ?_⟩
  · rintro i d ρ' M' hd ⟨⟨gs, s2, hs2, hlen, ok, pm⟩, u, rfl⟩
    obtain ⟨hi, rfl⟩ := rgD_get.mp hd
    have hl3 : (inD gs).length < 100000 := by rw [inD, List.length_map]; have := ok.1; omega
    refine tg_name (StR.perm ?_ pm)
    walk_at "ev"
    refine ⟨⟨_, List.mem_cons_of_mem _ memH⟩, ?_⟩
    walk_at "ev"
    refine evr_callM (c_digit T) (by omega) ?_
    walk_at "ev"
    refine ⟨[(p, s2.o)], _, _, List.Perm.refl _, ⟨p, s2, 9, rfl, hs2, by decide, by decide, rfl, rfl⟩, ?_⟩
    rintro d Ma ⟨y, s3, rfl, y0, y1, hs3, rfl⟩
    walk_at "ev"
    refine ⟨_, _, List.Perm.swap _ _ _, hl3, ?_⟩
    refine ⟨⟨gs ++ [1 + y], s3, hs3, by rw [List.length_append, hlen]; rfl, ok.snoc (by omega) (by omega) (by omega), ?_⟩, _, rfl⟩
    rw [inD_snoc]; exact List.Perm.swap _ _ _
  · rintro ρ' M' ⟨⟨gs, s', hs', _, ok, pm⟩, u, rfl⟩
    exact h s' gs u M' hs' ok pm
def preTrains (K : PySem.W.Frag) : List D → Mem → (D → Mem → Prop) → Prop := fun ds M R => ∃ (p : Addr) (s : Ds) (rs : List Rec), ds = [.loc p, rowD K (msOf rs), rowD K (turnMs (msOf rs)), .lst (rcD rs)] ∧ s.ok ∧ SmOk rs ∧ M = [(p, s.o)] ∧ R = fun d M' => ∃ s' : Ds, d = .bl true ∧ s'.ok ∧ M' = [(p, s'.o)]
theorem c_trains_right (T : Tx K mg) : Cal P w K mg base 10 "_law_trains_right" (spM K (preTrains K)) [] := by
  refine calD T.fn__law_trains_right T.mg__law_trains_right sc__law_trains_right b__law_trains_right (fun hr => d__law_trains_right T hr) ?_ ?_
  · rintro ds M R ⟨p, s, rs, rfl, _⟩; rfl
  rintro ds M R ⟨p, s, rs, rfl, hs, ok, rfl, rfl⟩
  unfold t__law_trains_right
  obtain ⟨hl, hm, hq⟩ := sm_ms ok
  have hlt := noL_turn hl
  obtain ⟨la1, la2⟩ := late_in (fun r hr => (ok.2 r hr).2)
  have hrl : rs.length ≤ 6 := ok.1
  refine st_seq (st_par3 (ear_c (evr_lstO (ear_nil ⟨Nat.zero_le _, fun h hh => ear_c (evr_lstO (ear_nil ⟨Nat.zero_le _, fun b hb => ear_c (evr_lstO (ear_nil ⟨Nat.zero_le _, fun e he => ear_nil ⟨_, _, _, rfl, ?_⟩⟩))⟩))⟩))))
  walk_at "ev"
  refine st_for (is := [7]) (itr_seq ?_)
  walk_at "ev"
  refine ⟨_, _, .tup _, fun i ρ' M' => (∃ (s' : Ds) (g0 g1 g2 : List Int), s'.ok ∧ GsOk g0 ∧ GsOk g1 ∧ GsOk g2 ∧ (i ≤ 0 → g0 = []) ∧ (i ≤ 1 → g1 = []) ∧ (i ≤ 2 → g2 = []) ∧ M'.Perm [(p, s'.o), (h, .lst (inD g0)), (b, .lst (inD g1)), (e, .lst (inD g2))]) ∧ ∃ u7 u8, ρ' = some (.loc p) :: some (rowD K (msOf rs)) :: some (rowD K (turnMs (msOf rs))) :: some (.lst (rcD rs)) :: some (.loc h) :: some (.loc b) :: some (.loc e) :: u7 :: u8 :: List.replicate 12 none, ⟨⟨s, [], [], [], hs, ⟨by decide, fun g hg => nomatch hg⟩, ⟨by decide, fun g hg => nomatch hg⟩, ⟨by decide, fun g hg => nomatch hg⟩, fun _ => rfl, fun _ => rfl, fun _ => rfl, ?_⟩, _, _, rfl⟩, ?_, ?_⟩
  · exact List.reverse_perm [(p, s.o), (h, .lst []), (b, .lst []), (e, .lst [])]
  · rintro i d ρ' M' hd ⟨⟨s', g0, g1, g2, hs', o0, o1, o2, z0, z1, z2, pm⟩, u7, u8, rfl⟩
    rcases i with _ | _ | _ | i
    · cases hd
      cases z0 (by decide)
      refine tg_name (draw_gaps T (by decide) hs' pm ?_)
      intro s2 gs u M2 hs2 ogs pm2
      exact ⟨⟨s2, gs, g1, g2, hs2, ogs, o1, o2, fun h => absurd h (by decide), fun h => z1 (by decide), fun h => z2 (by decide), pm2⟩, _, _, rfl⟩
    · cases hd
      cases z1 (by decide)
      refine tg_name (draw_gaps T (by decide) hs' (pm.trans (List.Perm.cons _ (List.Perm.swap _ _ _))) ?_)
      intro s2 gs u M2 hs2 ogs pm2
      exact ⟨⟨s2, g0, gs, g2, hs2, o0, ogs, o2, fun h => absurd h (by decide), fun h => absurd h (by decide), fun h => z2 (by decide), pm2.trans (List.Perm.cons _ (List.Perm.swap _ _ _))⟩, _, _, rfl⟩
    · cases hd
      cases z2 (by decide)
      refine tg_name (draw_gaps T (by decide) hs' (pm.trans (List.Perm.cons _ ((List.Perm.cons _ (List.Perm.swap _ _ _)).trans (List.Perm.swap _ _ _)))) ?_)
      intro s2 gs u M2 hs2 ogs pm2
      exact ⟨⟨s2, g0, g1, gs, hs2, o0, o1, ogs, fun h => absurd h (by decide), fun h => absurd h (by decide), fun h => absurd h (by decide), pm2.trans (List.Perm.cons _ ((List.Perm.swap _ _ _).trans (List.Perm.cons _ (List.Perm.swap _ _ _))))⟩, _, _, rfl⟩
    · cases hd
  · rintro ρ' M' ⟨⟨s', g0, g1, g2, hs', o0, o1, o2, z0, z1, z2, pm⟩, u7, u8, rfl⟩
    refine StR.perm ?_ pm
    refine st_frz (i := 4) (a := h) rfl (List.Perm.swap _ _ _) ?_
    refine st_frz (i := 5) (a := b) rfl (List.Perm.swap _ _ _) ?_
    refine st_frz (i := 6) (a := e) rfl (List.Perm.swap _ _ _) ?_
    show StR K _ (some (.loc p) :: some (rowD K (msOf rs)) :: some (rowD K (turnMs (msOf rs))) :: some (.lst (rcD rs)) :: some (.lst (inD g0)) :: some (.lst (inD g1)) :: some (.lst (inD g2)) :: u7 :: u8 :: [none, none, none, none, none, none, none, none, none, none, none, none]) _ _
    clear z0 z1 z2
    walk_at "ev"
    refine o2_powI ⟨by decide, by decide, by decide⟩ ?_
    walk_at "ev"
    refine evr_callM (c_digit T) (by decide) ?_
    walk_at "ev"
    refine ⟨[(p, s'.o)], [], _, List.Perm.refl _, ⟨p, s', 3, rfl, hs', by decide, by decide, rfl, rfl⟩, ?_⟩
    rintro d Ma ⟨n, s1', rfl, n0, n1, hs1, rfl⟩
    obtain ⟨rn, ern⟩ : ∃ rn : Nat, L2.atI [D.int 1, .int 3, .int (10 ^ (20 : Int).toNat)] n = some (nat rn) := by
      rcases (by omega : n = 0 ∨ n = 1 ∨ n = 2) with rfl | rfl | rfl
      · exact ⟨1, rfl⟩
      · exact ⟨3, rfl⟩
      · exact ⟨10 ^ 20, rfl⟩
    walk_at "ev"
    refine o2_ix (.lst _) ern ?_
    have gd : Good 6 ⟨0, g0, g1, rn, g2⟩ := ⟨o0.pos, o1.pos, o2.pos, by have := o0.1; have := o2.1; show g0.length + g2.length ≤ 6; omega, o1.1, by have := o1.sum; show g1.sum ≤ 100; omega⟩
    walk_at "ev"
    refine evr_make (k_Train T) (by decide) ?_
    walk_at "ev"
    refine ⟨_, ⟨⟨0, g0, g1, rn, g2⟩, _, _, _, rfl, .lst _, .lst _, .lst _, gd.ok (by decide), rfl⟩, ?_⟩
    walk_at "ev"
    refine ol_sum (ns := g0) (.lst _) ?_
    walk_at "ev"
    refine ol_sum (ns := g1) (.lst _) ?_
    walk_at "ev"
    have s1 := o1.sum
    refine o2_mulI (.small2 (by omega)) ?_
    walk_at "ev"
    refine ol_sum (ns := g2) (.lst _) ?_
    walk_at "ev"
    refine evr_make (k_Train T) (by decide) ?_
    walk_at "ev"
    refine ⟨_, .lst _, ?_⟩
    walk_at "ev"
    refine ⟨_, .lst _, ?_⟩
    walk_at "ev"
    refine ⟨_, .lst _, ?_⟩
    walk_at "ev"
    obtain ⟨t, et⟩ : ∃ t : Tr, t = ⟨0, g0, g1, rn, g2⟩ := ⟨_, rfl⟩
    have ef : 0 - (g0.sum + (rn : Int) * g1.sum + g2.sum) = (turnT t).first := by
      show _ = 0 - (t.first + (gaps t).sum)
      unfold gaps
      rw [et, List.sum_append, List.sum_append, sum_rep, Int.mul_comm]
      simp only
      omega
    have gt := turn_good gd
    rw [← et] at gd gt ⊢
    refine ⟨_, ⟨turnT t, .lst (inD g2).reverse, .lst (inD g1).reverse, .lst (inD g0).reverse, by rw [ef, et]; rfl, ?_, ?_, ?_, gt.ok (by decide), rfl⟩, ?_⟩
    · rw [et, show inD (turnT ⟨0, g0, g1, rn, g2⟩).head = (inD g2).reverse from List.map_reverse]; exact .lst _
    · rw [et, show inD (turnT ⟨0, g0, g1, rn, g2⟩).block = (inD g1).reverse from List.map_reverse]; exact .lst _
    · rw [et, show inD (turnT ⟨0, g0, g1, rn, g2⟩).fin = (inD g0).reverse from List.map_reverse]; exact .lst _
    clear ef
    walk_at "ev"
    refine evr_call (c_train_told T) (by decide) ?_
    walk_at "ev"
    have lv := lv_ok hl gd (by omega)
    have lvt := lv_ok hlt gt (by rw [turn_len]; omega)
    refine ⟨_, ⟨msOf rs, t, rfl, hl, by omega, lv, rfl⟩, ?_⟩
    walk_at "ev"
    refine evr_call (c_train_told T) (by decide) ?_
    walk_at "ev"
    refine ⟨_, ⟨turnMs (msOf rs), turnT t, rfl, hlt, by rw [turn_len]; omega, lvt, rfl⟩, ?_⟩
    walk_at "ev"
    refine evr_lcf (α := Rec) (is := is2 19 20) (by decide) (itr_seq ?_)
    walk_at "ev"
    refine ⟨_, _, .lst _, rs, Enc.en, fun r => .int r.2, fun r => decide (r.1 ∈ [Kd.last, .delay]), rfl, by omega, ?_, ?_⟩
    · rintro ⟨k, q⟩ hx
      show TgR _ _ K (.tup [.str k.str, .int q]) _ _
      walk_at "ev"
      refine o2_inK (i := k) (ns := [.last, .delay]) rfl rfl ?_
      walk_at "ev"
      refine ⟨rfl, rfl, fun _ => ?_⟩
      walk_at "ev"
      exact ⟨rfl, rfl⟩
    walk_at "ev"
    refine ol_sum (ns := (rs.filter fun r => decide (r.1 ∈ [Kd.last, .delay])).map fun r => r.2) (by rw [List.map_map]; exact .lst _) ?_
    rw [la1]
    walk_at "ev"
    refine evr_lcf (α := Rec) (is := is2 19 20) (by decide) (itr_seq ?_)
    walk_at "ev"
    refine ⟨_, _, .lst _, rs, Enc.en, fun r => .int r.2, fun r => decide (r.1 ∈ [Kd.first, .delay]), rfl, by omega, ?_, ?_⟩
    · rintro ⟨k, q⟩ hx
      show TgR _ _ K (.tup [.str k.str, .int q]) _ _
      walk_at "ev"
      refine o2_inK (i := k) (ns := [.first, .delay]) rfl rfl ?_
      walk_at "ev"
      refine ⟨rfl, rfl, fun _ => ?_⟩
      walk_at "ev"
      exact ⟨rfl, rfl⟩
    walk_at "ev"
    refine ol_sum (ns := (rs.filter fun r => decide (r.1 ∈ [Kd.first, .delay])).map fun r => r.2) (by rw [List.map_map]; exact .lst _) ?_
    rw [la2]
    have ok1 : TrOk (toldT (msOf rs) t) := lv.2
    have ok2 : TrOk (toldT (turnMs (msOf rs)) (turnT t)) := lvt.2
    have hc := cnt_told (msOf rs) t
    have hp : 0 < cntOf (toldT (msOf rs) t) := by unfold cntOf; omega
    have ht := fun p (h : p < cntOf (toldT (msOf rs) t)) => times_told (msOf rs) t (p := p) h
    generalize toldT (msOf rs) t = x at *
    generalize toldT (turnMs (msOf rs)) (turnT t) = y at *
    walk_at "ev"
    refine evr_call (c_amount_of T) (by decide) ?_
    walk_at "ev"
    refine ⟨_, ⟨x, rfl, ok1, rfl⟩, ?_⟩
    walk_at "ev"
    refine evr_call (c_amount_of T) (by decide) ?_
    walk_at "ev"
    refine ⟨_, ⟨y, rfl, ok2, rfl⟩, ?_⟩
    rw [hc]
    walk_at "ev"
    rw [decide_eq_true rfl]
    walk_at "ev"
    refine st_for (is := [18]) (itr_seq ?_)
    walk_at "ev"
    refine o2_fdivI (divW (by omega) (by decide)) ?_
    walk_at "ev"
    refine ⟨_, _, .tup _, fun i ρ' M' => M' = [(p, s1'.o)] ∧ ∃ u, ρ' = some (.loc p) :: some (rowD K (msOf rs)) :: some (rowD K (turnMs (msOf rs))) :: some (.lst (rcD rs)) :: some (.lst (inD g0)) :: some (.lst (inD g1)) :: some (.lst (inD g2)) :: u7 :: u8 :: some (nat rn) :: some (trD K t) :: some (.int (g0.sum + rn * g1.sum + g2.sum)) :: some (trD K (turnT t)) :: some (trD K x) :: some (trD K y) :: some (.int (late (msOf rs))) :: some (.int (late (turnMs (msOf rs)))) :: some (nat (cntOf x)) :: u :: [none, none], ⟨rfl, _, rfl⟩, ?_, ?_⟩
    · rintro i d ρ' M' hd ⟨rfl, u, rfl⟩
      obtain ⟨q, hq, rfl⟩ : ∃ q : Nat, q < cntOf x ∧ d = nat q := by
        rcases i with _ | _ | _ | i
        · cases hd; exact ⟨0, hp, rfl⟩
        · cases hd; exact ⟨cntOf x / 2, by omega, rfl⟩
        · cases hd; exact ⟨cntOf x - 1, by omega, congrArg D.int (by omega)⟩
        · cases hd
      have e1 := ht q hq
      refine tg_name ?_
      walk_at "ev"
      refine evr_call (c_event_at T) (by decide) ?_
      walk_at "ev"
      refine ⟨_, ⟨x, q, rfl, ok1, hq, rfl⟩, ?_⟩
      walk_at "ev"
      refine evr_call (c_event_at T) (by decide) ?_
      walk_at "ev"
      refine ⟨_, ⟨y, cntOf x - 1 - q, by rw [show (cntOf x : Int) - 1 - (q : Int) = ((cntOf x - 1 - q : Nat) : Int) by omega], ok2, by omega, rfl⟩, ?_⟩
      walk_at "ev"
      rw [e1, decide_eq_true rfl]
      walk_at "ev"
      exact ⟨rfl, _, rfl⟩
    · rintro ρ' M' ⟨rfl, u, rfl⟩
      walk_at "ev"
      exact ⟨s1', rfl, hs1, rfl⟩
end

/-! #### W20 -/
section
variable {P : Program} {w : World} {K : PySem.W.Frag} {mg : Str → Option Value} {base : Heap}
def sIsPlain (K : PySem.W.Frag) : List D → D → Prop := fun ds d => ∃ (a : List Rec) (l : Int) (k : Kd), ds = [nrD K a l, .str k.str] ∧ a.length ≤ 1000 ∧ d = .bl (a.all fun r => decide (r.1 = k))
theorem filter_empty {α : Type} (p : α → Bool) : ∀ xs : List α, (xs.filter fun x => !p x).isEmpty = xs.all p
  | [] => rfl
  | x :: xs => by
    rw [List.filter_cons, List.all_cons]
    cases p x with
    | true => exact filter_empty p xs
    | false => rfl
theorem c_is_plain (T : Tx K mg) : Cal P w K mg base 1 "_law_is_plain" (spD K (sIsPlain K)) [] := by
  refine calD T.fn__law_is_plain T.mg__law_is_plain sc__law_is_plain b__law_is_plain (fun hr => d__law_is_plain T hr) (pureP_len ?_) ?_
  · rintro ds d ⟨a, l, k, rfl, _⟩; rfl
  rintro ds M R ⟨rfl, d, ⟨a, l, k, rfl, hn, rfl⟩, rfl⟩
  unfold t__law_is_plain
  walk_at "ev"
  refine evr_lcf (α := Rec) (is := [2]) (by decide) (itr_seq ?_)
  walk_at "ev"
  refine ⟨_, _, .tup _, a, Enc.en, Enc.en, fun r => !decide (r.1 = k), rfl, by omega, ?_, ?_⟩
  · rintro ⟨c, q⟩ hx
    refine tg_name ?_
    show TvR K _ _ _ _
    walk_at "ev"
    refine o2_ix (.tup _) (d := .str c.str) rfl ?_
    walk_at "ev"
    refine o2_neK c k rfl rfl ?_
    walk_at "ev"
    refine ⟨rfl, rfl, fun _ => ?_⟩
    walk_at "ev"
    exact ⟨rfl, rfl⟩
  walk_at "ev"
  refine o2_eqNilE (a.filter fun r => !decide (r.1 = k)) (.lst _) ?_
  rw [filter_empty]
theorem o2_isN2 {M : Mem} {R : D → Mem → Prop} {d : D} {b : Bool} (h : d = .non ∧ b = true ∨ IsTr K d ∧ b = false) (k : R (.bl b) M) : O2 K rIsN d .non M R := by
  rcases h with ⟨rfl, rfl⟩ | ⟨⟨t, rfl⟩, rfl⟩
  · exact o2_isN k trivial
  · exact o2_isN k trivial
theorem ev_kind {ρ : Sl} {M : Mem} {R : D → Mem → Prop} {b : Bool} (h : ∀ k : Kd, (k = .last ∨ k = .first) → R (.str k.str) M) : if b = true then EvR K (tC (.str "last")) ρ M R else EvR K (tC (.str "first")) ρ M R := by
  cases b
  · exact evr_str (h .first (.inr rfl))
  · exact evr_str (h .last (.inl rfl))
def sPairsRight (K : PySem.W.Frag) : List D → D → Prop := fun ds d => ∃ (m n : List Mb), ds = [.tup [rowD K m, rowD K (turnMs m)], .tup [rowD K n, rowD K (turnMs n)]] ∧ NoL m ∧ NoL n ∧ m.length ≤ 100 ∧ n.length ≤ 100 ∧ (∀ u ∈ m ++ n, u.q ≤ 100) ∧ d = .bl true
theorem c_pairs_right (T : Tx K mg) : Cal P w K mg base 8 "_law_pairs_right" (spD K (sPairsRight K)) [] := by
  refine calD T.fn__law_pairs_right T.mg__law_pairs_right sc__law_pairs_right b__law_pairs_right (fun hr => d__law_pairs_right T hr) (pureP_len ?_) ?_
  · rintro ds d ⟨m, n, rfl, _⟩; rfl
  rintro ds M R ⟨rfl, d, ⟨m, n, rfl, hm, hn, lm, ln, hq, rfl⟩, rfl⟩
  unfold t__law_pairs_right
  have tm := noL_turn hm
  have tn := noL_turn hn
  have lm' := turn_len m
  have ln' := turn_len n
  obtain ⟨bm, sm⟩ := recs_b hm (by omega) (fun u hu => by have := hq u (List.mem_append_left _ hu); omega)
  obtain ⟨bn, sn⟩ := recs_b hn (by omega) (fun u hu => by have := hq u (List.mem_append_right _ hu); omega)
  have rm := recs_len m
  have rn := recs_len n
  walk_at "ev"
  refine evr_call (c_normal_form T) (by decide) ?_
  walk_at "ev"
  refine o2_ix (.tup _) (d := rowD K m) rfl ?_
  walk_at "ev"
  refine ⟨_, ⟨m, rfl, hm, by omega, rfl⟩, ?_⟩
  walk_at "ev"
  refine evr_call (c_normal_form T) (by decide) ?_
  walk_at "ev"
  refine o2_ix (.tup _) (d := rowD K n) rfl ?_
  walk_at "ev"
  refine ⟨_, ⟨n, rfl, hn, by omega, rfl⟩, ?_⟩
  walk_at "ev"
  refine o2_eqE (⟨recsOf m⟩ : Tu Rec) ⟨recsOf n⟩ rfl rfl ?_
  walk_at "ev"
  refine evr_call (c_normal_form T) (by decide) ?_
  walk_at "ev"
  refine o2_ix (.tup _) (d := rowD K (turnMs m)) rfl ?_
  walk_at "ev"
  refine ⟨_, ⟨(turnMs m), rfl, tm, by omega, rfl⟩, ?_⟩
  walk_at "ev"
  refine evr_call (c_normal_form T) (by decide) ?_
  walk_at "ev"
  refine o2_ix (.tup _) (d := rowD K (turnMs n)) rfl ?_
  walk_at "ev"
  refine ⟨_, ⟨(turnMs n), rfl, tn, by omega, rfl⟩, ?_⟩
  walk_at "ev"
  refine o2_eqE (⟨recsOf (turnMs m)⟩ : Tu Rec) ⟨recsOf (turnMs n)⟩ rfl rfl ?_
  walk_at "ev"
  have e1 : decide ((⟨recsOf (turnMs m)⟩ : Tu Rec) = ⟨recsOf (turnMs n)⟩) = decide ((⟨recsOf m⟩ : Tu Rec) = ⟨recsOf n⟩) := decide_eq_decide.mpr ⟨fun h => by
    have h := congrArg Tu.l h
    rw [recs_turn, recs_turn] at h
    exact congrArg Tu.mk (mapR_inj h), fun h => by
    have h := congrArg Tu.l h
    refine congrArg Tu.mk ?_
    rw [recs_turn, recs_turn]
    exact congrArg (List.map turnR) h⟩
  rw [e1, decide_eq_true rfl]
  walk_at "ev"
  refine evr_callE (c_parting T) (by decide) ?_
  walk_at "ev"
  refine o2_ix (.tup _) (d := rowD K m) rfl ?_
  walk_at "ev"
  refine o2_ix (.tup _) (d := rowD K n) rfl ?_
  walk_at "ev"
  refine ⟨_, ⟨m, n, rfl, hm, hn, by omega, by omega, bm, bn, fun h => part_ok bm bn sm sn h, rfl⟩, fun d hd => ?_⟩
  walk_at "ev"
  refine o2_isN2 (b := decide ((recsOf m, late m) = (recsOf n, late n))) ?_ ?_
  · by_cases h : late m = late n ∧ recsOf m = recsOf n
    · rw [if_pos h] at hd
      exact .inl ⟨hd, decide_eq_true (Prod.ext h.2 h.1)⟩
    · rw [if_neg h] at hd
      exact .inr ⟨hd, decide_eq_false fun e => h ⟨congrArg Prod.snd e, congrArg Prod.fst e⟩⟩
  walk_at "ev"
  refine evr_call (c_same_rows T) (by decide) ?_
  walk_at "ev"
  refine o2_ix (.tup _) (d := rowD K m) rfl ?_
  walk_at "ev"
  refine o2_ix (.tup _) (d := rowD K n) rfl ?_
  walk_at "ev"
  refine ⟨_, ⟨m, n, rfl, hm, hn, by omega, by omega, rfl⟩, ?_⟩
  walk_at "ev"
  rw [decide_eq_true rfl]
  walk_at "ev"
  refine evr_call (c_is_plain T) (by decide) ?_
  walk_at "ev"
  refine evr_call (c_normal_form T) (by decide) ?_
  walk_at "ev"
  refine o2_ix (.tup _) (d := rowD K m) rfl ?_
  walk_at "ev"
  refine ⟨_, ⟨m, rfl, hm, by omega, rfl⟩, ?_⟩
  walk_at "ev"
  refine ⟨_, ⟨recsOf m, late m, .last, rfl, by omega, rfl⟩, ?_⟩
  walk_at "ev"
  refine ev_kind fun k hk => ?_
  walk_at "ev"
  refine evr_call (c_is_plain T) (by decide) ?_
  walk_at "ev"
  refine evr_call (c_normal_form T) (by decide) ?_
  walk_at "ev"
  refine o2_ix (.tup _) (d := rowD K m) rfl ?_
  walk_at "ev"
  refine ⟨_, ⟨m, rfl, hm, by omega, rfl⟩, ?_⟩
  walk_at "ev"
  refine ⟨_, ⟨recsOf m, late m, k, rfl, by omega, rfl⟩, ?_⟩
  walk_at "ev"
  refine itB (fun ha => ?_) (fun ha => ?_)
  · walk_at "ev"
    refine evr_call (c_is_plain T) (by decide) ?_
    walk_at "ev"
    refine evr_call (c_normal_form T) (by decide) ?_
    walk_at "ev"
    refine o2_ix (.tup _) (d := rowD K n) rfl ?_
    walk_at "ev"
    refine ⟨_, ⟨n, rfl, hn, by omega, rfl⟩, ?_⟩
    walk_at "ev"
    refine ⟨_, ⟨recsOf n, late n, k, rfl, by omega, rfl⟩, ?_⟩
    walk_at "ev"
    refine itB (fun hb => ?_) (fun hb => ?_)
    · walk_at "ev"
      have hall : ∀ r ∈ recsOf m ++ recsOf n, r.1 = k := fun r hr => by
        rcases List.mem_append.mp hr with hr | hr
        · exact of_decide_eq_true (List.all_eq_true.mp ha r hr)
        · exact of_decide_eq_true (List.all_eq_true.mp hb r hr)
      have hall2 : ∀ r ∈ recsOf (turnMs m) ++ recsOf (turnMs n), r.1 = k.turn := fun r hr => by
        rw [recs_turn, recs_turn, ← List.map_append] at hr
        obtain ⟨u, hu, rfl⟩ := List.mem_map.mp hr
        show u.1.turn = _
        rw [hall u hu]
      refine evr_call (c_is_contained T) (by decide) ?_
      walk_at "ev"
      refine o2_ix (.tup _) (d := rowD K m) rfl ?_
      walk_at "ev"
      refine o2_ix (.tup _) (d := rowD K n) rfl ?_
      walk_at "ev"
      refine ⟨_, ⟨m, n, k, rfl, hm, hn, by omega, by omega, hk, hall, rfl⟩, ?_⟩
      walk_at "ev"
      refine evr_call (c_is_contained T) (by decide) ?_
      walk_at "ev"
      refine o2_ix (.tup _) (d := rowD K (turnMs m)) rfl ?_
      walk_at "ev"
      refine o2_ix (.tup _) (d := rowD K (turnMs n)) rfl ?_
      walk_at "ev"
      refine ⟨_, ⟨turnMs m, turnMs n, k.turn, rfl, tm, tn, by omega, by omega, hk.elim (fun e => .inr (by rw [e]; rfl)) (fun e => .inl (by rw [e]; rfl)), hall2, rfl⟩, ?_⟩
      walk_at "ev"
      rw [recs_turn, recs_turn, contain_turn, decide_eq_true rfl]
    · walk_at "ev"
      rfl
  · rw [if_neg Bool.false_ne_true]
    walk_at "ev"
    rfl
end

/-! #### W21 -/
section
variable {P : Program} {w : World} {K : PySem.W.Frag} {mg : Str → Option Value} {base : Heap}
/-! ### members by kind, numbers of events -/
def sMemberOf (K : PySem.W.Frag) : List D → D → Prop := fun ds d => ∃ (k : Kd) (q : Int), ds = [.str k.str, .int q] ∧ k ≠ .delay ∧ 1 ≤ q ∧ d = mbD K k q
theorem c_member_of (T : Tx K mg) : Cal P w K mg base 4 "member_of" (spD K (sMemberOf K)) [] := by
  refine calD T.fn_member_of T.mg_member_of sc_member_of b_member_of (fun hr => d_member_of T hr) (pureP_len ?_) ?_
  · rintro ds d ⟨k, q, rfl, _⟩; rfl
  rintro ds M R ⟨rfl, d, ⟨k, q, rfl, hk, hq, rfl⟩, rfl⟩
  unfold t_member_of
  walk_at "ev"
  refine o2_eqK k .last rfl rfl ?_
  walk_at "ev"
  refine itD (fun h => ?_) (fun h => ?_)
  · subst h
    walk_at "ev"
    refine evr_make (k_Member T .last) (by decide) ?_
    walk_at "ev"
    exact ⟨_, ⟨q, rfl, hq, rfl⟩, rfl⟩
  · walk_at "ev"
    refine o2_eqK k .first rfl rfl ?_
    walk_at "ev"
    refine itD (fun h1 => ?_) (fun h1 => ?_)
    · subst h1
      walk_at "ev"
      refine evr_make (k_Member T .first) (by decide) ?_
      walk_at "ev"
      exact ⟨_, ⟨q, rfl, hq, rfl⟩, rfl⟩
    · have e : k = .limit := by cases k <;> simp_all
      subst e
      walk_at "ev"
      refine evr_make (k_Member T .limit) (by decide) ?_
      walk_at "ev"
      exact ⟨_, ⟨q, rfl, hq, rfl⟩, rfl⟩
/-- rising numbers of events -/
def NumOk (n : Nat) (ns : List Nat) : Prop := ns.Pairwise (· < ·) ∧ ∀ x ∈ ns, x < n
def sCheckNumbers : List D → D → Prop := fun ds d => ∃ (s : List Int) (ns : List Nat), ds = [.lst (inD s), .lst (naD ns)] ∧ NumOk s.length ns ∧ d = .non
theorem c_check_numbers (T : Tx K mg) : Cal P w K mg base 2 "check_numbers" (spD K sCheckNumbers) [] := by
  refine calD T.fn_check_numbers T.mg_check_numbers sc_check_numbers b_check_numbers (fun hr => d_check_numbers T hr) (pureP_len ?_) ?_
  · rintro ds d ⟨s, ns, rfl, _⟩; rfl
  rintro ds M R ⟨rfl, d, ⟨s, ns, rfl, ⟨hp, hn⟩, rfl⟩, rfl⟩
  unfold t_check_numbers
  walk_at "ev"
  refine ol_isiT (.lst _) (.cons (.ty _) (.cons (.ty _) .nil)) (b := true) (by rfl) ?_
  walk_at "ev"
  refine st_for (is := is2 2 3) (itr_enumX ?_)
  walk_at "ev"
  refine ⟨_, _, _, rfl, .lst _, ?_⟩
  rw [enD_map]
  refine ⟨fun i ρ' M' => M' = [] ∧ ∃ a b, ρ' = [some (.lst (inD s)), some (.lst (naD ns)), a, b], ⟨rfl, _, _, rfl⟩, ?_, ?_⟩
  · rintro i d ρ' M' hd ⟨rfl, a, b, rfl⟩
    obtain ⟨hi, rfl⟩ := enM_get 0 hd
    have hx := hn _ (getD_mem 0 hi)
    have hrise : ∀ k, i = k + 1 → ns.getD k 0 < ns.getD i 0 := fun k e => by
      have := (List.pairwise_iff_getElem.mp hp) k i (by omega) hi (by omega)
      rw [List.getD_eq_getElem?_getD, List.getElem?_eq_getElem (by omega : k < ns.length), List.getD_eq_getElem?_getD, List.getElem?_eq_getElem hi]
      exact this
    generalize hxe : ns.getD i 0 = x at *
    walk_at "ev"
    refine evr_call (c_is_number T) (by decide) ?_
    walk_at "ev"
    refine ⟨_, ⟨_, rfl, rfl⟩, ?_⟩
    walk_at "ev"
    refine itP (by omega) ?_
    walk_at "ev"
    rw [List.length_map]
    rw [decide_eq_true (show ((x : Nat) : Int) < (s.length : Int) by omega)]
    walk_at "ev"
    refine itD (fun h => ?_) (fun h => ?_)
    · walk_at "ev"
      refine o2_ixN (i - 1) (by omega) (by omega) ?_
      walk_at "ev"
      have := hrise (i - 1) (by omega)
      refine itN (by omega) ?_
      walk_at "ev"
      exact ⟨rfl, _, _, rfl⟩
    · walk_at "ev"
      exact ⟨rfl, _, _, rfl⟩
  · rintro ρ' M' ⟨rfl, a, b, rfl⟩
    rfl
end

/-! #### W22 -/
section
variable {P : Program} {w : World} {K : PySem.W.Frag} {mg : Str → Option Value} {base : Heap}
/-! ### stretches of quiets -/
abbrev St2 := Int × Int
def strStep (most : Int) (x : List St2 × Int) (gap : Int) : List St2 × Int :=
  if x.2 ≤ (if most < gap then most else gap) then (x.1 ++ [(x.2, if most < gap then most else gap)], (if most < gap then most else gap) + 1) else x
/-- what stands of the stretches so far; G: all gaps -/
structure StrI (most : Int) (G : List Int) (fs : List St2) (low : Int) : Prop where
  lo : 2 ≤ low
  hi : low ≤ most + 1
  each : ∀ p ∈ fs, 2 ≤ p.1 ∧ p.1 ≤ p.2 ∧ p.2 ≤ most ∧ p.2 < low
  ord : fs.Pairwise fun p q => p.2 < q.1
  cov : ∀ q, 2 ≤ q → q < low → ∃ p ∈ fs, p.1 ≤ q ∧ q ≤ p.2
  gap : ∀ p ∈ fs, ∀ g ∈ G, p.1 ≤ g → p.2 ≤ g
theorem StrI.add {most : Int} {G : List Int} {fs : List St2} {low high : Int} (I : StrI most G fs low) (h1 : low ≤ high) (h2 : high ≤ most) (hg : ∀ g ∈ G, low ≤ g → high ≤ g) : StrI most G (fs ++ [(low, high)]) (high + 1) := by
  have one : ∀ p ∈ fs ++ [(low, high)], p ∈ fs ∨ p = (low, high) := fun p hp => by
    rcases List.mem_append.mp hp with h | h
    · exact .inl h
    · exact .inr (List.mem_singleton.mp h)
  have i1 := I.lo
  refine ⟨by omega, by omega, fun p hp => ?_, ?_, fun q hq1 hq2 => ?_, fun p hp => ?_⟩
  · rcases one p hp with h | h
    · have := I.each p h; omega
    · subst h; exact ⟨i1, h1, h2, by show high < high + 1; omega⟩
  · refine List.pairwise_append.mpr ⟨I.ord, List.pairwise_singleton _ _, fun p hp q hq => ?_⟩
    rw [List.mem_singleton.mp hq]
    exact (I.each p hp).2.2.2
  · by_cases c : q < low
    · obtain ⟨p, hp, e⟩ := I.cov q hq1 c
      exact ⟨p, List.mem_append_left _ hp, e⟩
    · exact ⟨(low, high), List.mem_append_right _ (List.mem_singleton.mpr rfl), by show low ≤ q; omega, by show q ≤ high; omega⟩
  · rcases one p hp with h | h
    · exact I.gap p h
    · subst h; exact hg
theorem str_gaps {most : Int} {G : List Int} (hm : 2 ≤ most) : ∀ (gs : List Int) (fs : List St2) (low : Int), gs.Pairwise (· < ·) → StrI most G fs low → (∀ g ∈ G, g < low ∨ most < low ∨ g ∈ gs) →
    StrI most G (gs.foldl (strStep most) (fs, low)).1 (gs.foldl (strStep most) (fs, low)).2 ∧ ∀ g ∈ G, g < (gs.foldl (strStep most) (fs, low)).2 ∨ most < (gs.foldl (strStep most) (fs, low)).2
  | [], fs, low, _, I, h => ⟨I, fun g hg => by
    rcases h g hg with h | h | h
    · exact .inl h
    · exact .inr h
    · cases h⟩
  | gap :: gs, fs, low, hp, I, h => by
    rw [List.pairwise_cons] at hp
    rw [List.foldl_cons]
    unfold strStep
    dsimp only
    by_cases c : low ≤ if most < gap then most else gap
    · rw [if_pos c]
      have hh : (if most < gap then most else gap) ≤ most ∧ (if most < gap then most else gap) ≤ gap := by split <;> omega
      have hx : (if most < gap then most else gap) = gap ∨ (if most < gap then most else gap) = most := by split <;> omega
      generalize (if most < gap then most else gap) = high at *
      refine str_gaps hm gs _ _ hp.2 (I.add c hh.1 fun g hg hl => ?_) fun g hg => ?_
      · rcases h g hg with h | h | h
        · omega
        · omega
        · rcases List.mem_cons.mp h with h | h
          · omega
          · have := hp.1 g h; omega
      · rcases h g hg with h | h | h
        · exact .inl (by omega)
        · omega
        · rcases List.mem_cons.mp h with h | h
          · rcases hx with e | e
            · exact .inl (by omega)
            · exact .inr (.inl (by omega))
          · exact .inr (.inr h)
    · rw [if_neg c]
      refine str_gaps hm gs _ _ hp.2 I fun g hg => ?_
      rcases h g hg with h | h | h
      · exact .inl h
      · exact .inr (.inl h)
      · rcases List.mem_cons.mp h with h | h
        · subst h
          by_cases c2 : most < g
          · rw [if_pos c2] at c; exact .inr (.inl (by omega))
          · rw [if_neg c2] at c; exact .inl (by omega)
        · exact .inr (.inr h)
def strOf (most : Int) (gs : List Int) : List St2 := ((gs ++ [most]).foldl (strStep most) ([], 2)).1
/-- what stretches are -/
structure StrO (most : Int) (G : List Int) (fs : List St2) : Prop where
  each : ∀ p ∈ fs, 2 ≤ p.1 ∧ p.1 ≤ p.2 ∧ p.2 ≤ most
  ord : fs.Pairwise fun p q => p.2 < q.1
  cov : ∀ q, 2 ≤ q → q ≤ most → ∃ p ∈ fs, p.1 ≤ q ∧ q ≤ p.2
  gap : ∀ p ∈ fs, ∀ g ∈ G, p.1 ≤ g → p.2 ≤ g
theorem str_all {most : Int} {G gs : List Int} (hm : 2 ≤ most) (hp : gs.Pairwise (· < ·)) (hg : ∀ g ∈ G, g ∈ gs) : StrO most G (strOf most gs) := by
  obtain ⟨I, h⟩ := str_gaps (G := G) hm gs [] 2 hp ⟨by decide, by omega, fun p hp => (nomatch hp), .nil, fun q h1 h2 => by omega, fun p hp => (nomatch hp)⟩ fun g h => .inr (.inr (hg g h))
  unfold strOf
  rw [List.foldl_append]
  generalize gs.foldl (strStep most) ([], 2) = x at *
  obtain ⟨fs, low⟩ := x
  have I : StrI most G fs low := I
  have h : ∀ g ∈ G, g < low ∨ most < low := h
  show StrO most G (strStep most (fs, low) most).1
  unfold strStep
  dsimp only
  rw [if_neg (Int.lt_irrefl most)]
  by_cases c : low ≤ most
  · rw [if_pos c]
    have J := I.add c (Int.le_refl _) fun g hg hl => by rcases h g hg with h | h <;> omega
    exact ⟨fun p hp => ⟨(J.each p hp).1, (J.each p hp).2.1, (J.each p hp).2.2.1⟩, J.ord, fun q h1 h2 => J.cov q h1 (by omega), J.gap⟩
  · rw [if_neg c]
    exact ⟨fun p hp => ⟨(I.each p hp).1, (I.each p hp).2.1, (I.each p hp).2.2.1⟩, I.ord, fun q h1 h2 => I.cov q h1 (by omega), I.gap⟩
/-- all gaps of a stream -/
def gapsOf (s : List Int) : List Int := s.zipIdx.flatMap fun p => (s.drop (p.2 + 1)).map fun l => l - p.1
theorem gaps_mem {s : List Int} {a b : Nat} (h1 : a < b) (h2 : b < s.length) : s.getD b 0 - s.getD a 0 ∈ gapsOf s := by
  unfold gapsOf
  refine List.mem_flatMap.mpr ⟨(s.getD a 0, a), ?_, List.mem_map.mpr ⟨s.getD b 0, ?_, rfl⟩⟩
  · refine List.mem_iff_getElem?.mpr ⟨a, ?_⟩
    rw [List.getElem?_zipIdx, List.getElem?_eq_getElem (by omega), List.getD_eq_getElem?_getD, List.getElem?_eq_getElem (by omega)]
    show some _ = some _
    rw [Nat.zero_add]; rfl
  · refine List.mem_iff_getElem?.mpr ⟨b - (a + 1), ?_⟩
    rw [List.getElem?_drop, show a + 1 + (b - (a + 1)) = b by omega, List.getElem?_eq_getElem h2, List.getD_eq_getElem?_getD, List.getElem?_eq_getElem h2]
    rfl
theorem gaps_len {s : List Int} (h : s.length ≤ 8) : (gapsOf s).length ≤ 56 := by
  unfold gapsOf
  have : ∀ (n k : Nat) (l : List Int), l.length ≤ n → ((l.zipIdx k).flatMap fun p => (s.drop (p.2 + 1)).map fun x => x - p.1).length ≤ n * 7 := by
    intro n
    induction n with
    | zero => intro k l hl; rw [List.length_eq_zero_iff.mp (by omega : l.length = 0)]; exact Nat.zero_le _
    | succ n ih =>
      intro k l hl
      cases l with
      | nil => exact Nat.zero_le _
      | cons x l =>
        rw [List.zipIdx_cons, List.flatMap_cons, List.length_append, List.length_map, List.length_drop]
        have := ih (k + 1) l (by simpa using hl)
        have : s.length - (k + 1) ≤ 7 := by omega
        show s.length - (k + 1) + _ ≤ _
        omega
  exact this 8 0 s h
def sStretches : List D → (D → Prop) → Prop := fun ds Q => ∃ s : List Int, ds = [.lst (inD s), .int 13] ∧ s.length ≤ 8 ∧ Q = fun d => ∃ fs : List St2, d = .lst (fs.map Enc.en) ∧ fs.length ≤ 57 ∧ StrO 13 (gapsOf s) fs
theorem str_len (most : Int) (gs : List Int) : ∀ x : List St2 × Int, (gs.foldl (strStep most) x).1.length ≤ x.1.length + gs.length := by
  induction gs with
  | nil => intro x; exact Nat.le_refl _
  | cons g gs ih =>
    intro x
    rw [List.foldl_cons]
    have h := ih (strStep most x g)
    have h2 : (strStep most x g).1.length ≤ x.1.length + 1 := by
      unfold strStep
      generalize (if most < g then most else g) = high
      by_cases c : x.2 ≤ high
      · rw [if_pos c]
        show (x.1 ++ [_]).length ≤ _
        rw [List.length_append]; exact Nat.le_refl _
      · rw [if_neg c]
        exact Nat.le_succ _
    rw [List.length_cons]
    omega
theorem c_stretches (T : Tx K mg) : Cal P w K mg base 1 "stretches" (spE K sStretches) [] := by
  refine calD T.fn_stretches T.mg_stretches sc_stretches b_stretches (fun hr => d_stretches T hr) ?_ ?_
  · rintro ds M R ⟨_, Q, ⟨s, rfl, _⟩, _⟩; rfl
  rintro ds M R ⟨rfl, Q, ⟨s, rfl, hs, rfl⟩, rfl⟩
  unfold t_stretches
  have hgl := gaps_len hs
  refine st_seq (st_set (evr_sortSetI (evr_lc2 (α := Int × Nat) (β := Int) (is := is2 7 8) (is1 := [9]) (by decide) (by decide) (itr_enumX ?_))))
  walk_at "ev"
  refine ⟨_, _, _, rfl, .lst _, ?_⟩
  rw [enD_map]
  refine ⟨s.zipIdx, fun p => .tup [nat p.2, .int p.1], fun p => s.drop (p.2 + 1), .int, fun p l => .int (l - p.1), rfl, ?_, ?_, gapsOf s, ?_, by omega, ?_⟩
  · have e : (s.zipIdx.flatMap fun p => (s.drop (p.2 + 1)).map fun l => D.int (l - p.1)).length = (gapsOf s).length := by
      unfold gapsOf
      rw [List.length_flatMap, List.length_flatMap]
      simp only [List.length_map]
    rw [e]; omega
  · rintro ⟨t, i⟩ hx
    refine tg_tup rfl (tgs_cons (tg_name (tgs_cons (tg_name (tgs_nil ⟨fun M' => itr_seq (evr_sl ?_), fun y hy => tg_name ?_⟩)))))
    · walk_at "ev"
      refine ⟨s.map D.int, .lst _, true, _, .lst _, rfl, ?_⟩
      have hi : i < s.length := by
        obtain ⟨k, hk⟩ := List.mem_iff_getElem?.mp hx
        rw [List.getElem?_zipIdx] at hk
        cases hs : s[k]? with
        | none => rw [hs] at hk; cases hk
        | some v =>
          rw [hs] at hk
          have := (List.getElem?_eq_some_iff.mp hs).1
          have e : 0 + k = i := congrArg Prod.snd (Option.some.inj hk)
          omega
      rw [show ((i : Int) + 1) = ((i + 1 : Nat) : Int) by omega]
      exact cut_from hi
    · walk_at "ev"
      exact ⟨rfl, rfl⟩
  · have e : (s.zipIdx.flatMap fun p => (s.drop (p.2 + 1)).map fun l => D.int (l - p.1)) = (gapsOf s).map D.int := by
      unfold gapsOf
      rw [List.map_flatMap]
      simp only [List.map_map]
      rfl
    rw [e]; exact .lst _
  · intro ks hk hm
    have hkl : ks.length ≤ 56 := by
      have nd : ks.Nodup := hk.imp fun h e => by omega
      have := nd.length_le_of_subset (l₂ := gapsOf s) fun k h => (hm k).mp h
      omega
    have hO : StrO 13 (gapsOf s) (strOf 13 ks) := str_all (by decide) hk fun g hg => (hm g).mpr hg
    refine st_seq (st_par (ear_c (evr_lstO (ear_nil ⟨Nat.zero_le _, fun f hf => ?_⟩))))
    walk_at "ev"
    refine st_for (is := [5]) (itr_seq ?_)
    walk_at "ev"
    refine o2_addL (xs := ks.map D.int) (ys := [D.int 13]) (.lst _) (.lst _) (by rw [List.length_map]; show ks.length + 1 ≤ _; omega) ?_
    refine ⟨_, _, .lst _, ?_⟩
    rw [show ks.map D.int ++ [D.int 13] = (ks ++ [13]).map D.int by rw [List.map_append]; rfl]
    have hL : (ks ++ [13]).length ≤ 57 := by rw [List.length_append]; show ks.length + 1 ≤ 57; omega
    unfold strOf at hO
    generalize hLe : ks ++ [13] = L at *
    refine ⟨fun i ρ' M' => ∃ fs low, M' = [(f, .lst (fs.map Enc.en))] ∧ (L.take i).foldl (strStep 13) ([], 2) = (fs, low) ∧ ∃ u v, ρ' = [some (.lst (inD s)), some (.int 13), some (.lst (ks.map D.int)), some (.loc f), some (.int low), u, v, none, none, none], ⟨[], 2, rfl, rfl, _, _, rfl⟩, ?_, ?_⟩
    · rintro i d ρ' M' hd ⟨fs, low, rfl, hx, u, v, rfl⟩
      obtain ⟨hi, rfl⟩ := map_get (0 : Int) hd
      have tk : (L.take (i + 1)).foldl (strStep 13) ([], 2) = strStep 13 (fs, low) (L.getD i 0) := by
        rw [List.take_succ, List.getElem?_eq_getElem hi, List.foldl_append, hx, List.getD_eq_getElem?_getD, List.getElem?_eq_getElem hi]; rfl
      have hlen := str_len 13 (L.take i) ([], 2)
      rw [List.length_take, hx] at hlen
      have hlen : fs.length ≤ 57 := by
        have h2 : fs.length ≤ 0 + min i L.length := hlen
        omega
      have ns : strStep 13 (fs, low) (L.getD i 0) = if low ≤ (if 13 < L.getD i 0 then (13 : Int) else L.getD i 0) then (fs ++ [(low, if 13 < L.getD i 0 then (13 : Int) else L.getD i 0)], (if 13 < L.getD i 0 then (13 : Int) else L.getD i 0) + 1) else (fs, low) := rfl
      rw [ns] at tk
      generalize L.getD i 0 = g at *
      walk_at "ev"
      generalize (if 13 < g then (13 : Int) else g) = high at *
      refine itD (fun h => ?_) (fun h => ?_)
      · rw [if_pos h] at tk
        walk_at "ev"
        · rw [List.length_map]
          omega
        walk_at "ev"
        exact ⟨fs ++ [(low, high)], _, by rw [List.map_append]; rfl, tk, _, _, rfl⟩
      · rw [if_neg h] at tk
        walk_at "ev"
        exact ⟨fs, low, rfl, tk, _, _, rfl⟩
    · rintro ρ' M' ⟨fs, low, rfl, hx, u, v, rfl⟩
      rw [List.length_map, List.take_length] at hx
      rw [hx] at hO
      have hlen := str_len 13 L ([], 2)
      rw [hx] at hlen
      have hlen : fs.length ≤ 0 + L.length := hlen
      refine st_frz (i := 3) rfl (List.Perm.refl _) ?_
      walk_at "ev"
      exact ⟨by omega, hO⟩
end

/-! #### W23 -/
section
variable {P : Program} {w : World} {K : PySem.W.Frag} {mg : Str → Option Value} {base : Heap}
/-! ### Leads: made, what is left, whether it is open -/
def ldF (s : List Int) (goal : List Nat) (fs : List St2) : List (Str × D) := [("stream", .lst (inD s)), ("goal", .tup (naD goal)), ("stretches", .lst (fs.map Enc.en)), ("fewest", .any)]
abbrev ldD (K : PySem.W.Frag) (s : List Int) (goal : List Nat) (fs : List St2) : D := .ins (He.ga K "Leads") (ldF s goal fs)
theorem evr_forget {ρ : Sl} {M : Mem} {te : TE} {R : D → Mem → Prop} (h : EvR K te ρ M fun d M' => ∃ M1 M2, M'.Perm (M1 ++ M2) ∧ R d M2) : EvR K te ρ M R := fun F0 H0 F H σ S W Q q =>
  h F0 H0 F H σ S W Q fun v d M' F' H' e W' r ⟨M1, M2, pm, k⟩ => q v d M2 F' H' e (W'.perm pm).sub r k
theorem evr_makeG {ρ : Sl} {M : Mem} {R : D → Mem → Prop} {t : TA} {j k : Nat} {x : Str} {pre : List D → Mem → (D → Mem → Prop) → Prop} {C : Addr} (c : Mak P w K mg base k x C (spM K pre) []) (hk : k + 1 ≤ j)
    (h : EaR K t ρ M fun ds M1 => ∃ G : List (Str × D) → Prop, (∀ y, pre (.loc y :: ds) [(y, .ins C [])] fun d M' => d = .non ∧ ∃ fs, M' = [(y, .ins C fs)] ∧ G fs) ∧ ∀ fs, G fs → R (.ins C fs) M1) : EvR K (tMakeX P w K mg base j x t) ρ M R := fun F0 H0 F H σ S W Q q =>
  h F0 H0 F H σ S W _ fun vs ds M1 F1 H1 e1 W1 r1 ⟨G, hp, z⟩ => ⟨_, k, C, c, hk, fun y dx hy hd ne => by
    obtain ⟨W2, e2⟩ := made (C := C) W1 hy hd ne
    refine sp_in (Ma := [(y, .ins C [])]) (Mb := M1) (.cons (.loc y) (r1.mono e2)) W2 (hp y) fun v d Ma' F' H' e W' r ⟨ed, fs, em, g⟩ => ?_
    subst ed; subst em
    cases r
    obtain ⟨u, W3, e3, ro, hu⟩ := W'.freeze
    cases ro with
    | ins r => exact ⟨rfl, q _ _ _ _ _ (((e1.trans e2).trans e).trans e3) W3 (.ins hu r) (z fs g)⟩⟩
def preLeads (K : PySem.W.Frag) : List D → Mem → (D → Mem → Prop) → Prop := fun ds M R => ∃ (y : Addr) (s : List Int) (goal : List Nat), ds = [.loc y, .lst (inD s), .lst (naD goal), .int 13] ∧ s.length ≤ 8 ∧ M = [(y, .ins (He.ga K "Leads") [])] ∧
  R = fun d M' => d = .non ∧ ∃ fl, M' = [(y, .ins (He.ga K "Leads") fl)] ∧ ∃ fs : List St2, fl = ldF s goal fs ∧ fs.length ≤ 57 ∧ StrO 13 (gapsOf s) fs
theorem k_Leads (T : Tx K mg) : Mak P w K mg base 2 "Leads" (He.ga K "Leads") (spM K (preLeads K)) [] := by
  refine makD T.fn_Leads_D_initD_ T.mk_Leads T.mg_Leads sc_LeadsD__initD_ b_LeadsD__initD_ (fun hr => d_LeadsD__initD_ T hr) ?_ ?_
  · rintro ds M R ⟨y, s, goal, rfl, _⟩; rfl
  rintro ds M R ⟨y, s, goal, rfl, hs, rfl, rfl⟩
  unfold t_LeadsD__initD_
  walk_at "ev"
  refine ⟨true, _, .lst _, (fun e => nomatch e), ?_⟩
  walk_at "ev"
  refine evr_callE (c_stretches T) (by decide) ?_
  walk_at "ev"
  refine ⟨_, ⟨s, rfl, hs, rfl⟩, ?_⟩
  rintro d ⟨fs, rfl, hl, hO⟩
  walk_at "ev"
  refine evr_any (evr_forget (evr_dnewK fun p hp => ⟨[(p, .dK [])], _, List.Perm.refl _, ?_⟩))
  walk_at "ev"
  exact ⟨rfl, _, rfl, fs, rfl, hl, hO⟩
def sLeft (K : PySem.W.Frag) : List D → D → Prop := fun ds d => ∃ (s : List Int) (goal : List Nat) (fs : List St2) (ns : List Nat) (k : Kd) (p : Nat), ds = [ldD K s goal fs, .tup (naD ns), .str k.str, nat p] ∧ k ≠ .delay ∧ p < fs.length ∧ 1 ≤ (fs.getD p (0, 0)).1 ∧ (∀ x ∈ ns, x < s.length) ∧ ns.length ≤ 1000 ∧
  d = .tup (naD (stepN s ns ⟨k, (fs.getD p (0, 0)).1⟩))
theorem m_left (T : Tx K mg) : Met P w K mg base 5 (He.ga K "Leads") "left" (spD K (sLeft K)) [] := by
  refine metD T.fn_Leads_left T.cl_Leads T.me_Leads_left sc_Leads.left b_Leads.left (fun hr => d_Leads.left T hr) (pureP_len ?_) ?_
  · rintro ds d ⟨s, goal, fs, ns, k, p, rfl, _⟩; rfl
  rintro ds M R ⟨rfl, d, ⟨s, goal, fs, ns, k, p, rfl, hk, hp, hq, hn, hl, rfl⟩, rfl⟩
  unfold t_Leads.left
  walk_at "ev"
  refine ev_meth ?_
  refine evr_call (c_member_of T) (by decide) ?_
  walk_at "ev"
  refine o2_ixF (0, 0) (.lst _) p rfl hp ?_
  generalize fs.getD p (0, 0) = st at *
  obtain ⟨lo, hi⟩ := st
  show EvR K _ _ _ _
  walk_at "ev"
  refine o2_ix (.tup _) (d := .int lo) rfl ?_
  walk_at "ev"
  refine ⟨_, ⟨k, lo, rfl, hk, hq, rfl⟩, ?_⟩
  refine ⟨_, _, 1, _, .ins _ _, look_w _ _ _ (.inr (.inl rfl)), m_kept T k, by decide, ?_⟩
  refine ear_c (evr_lcm (α := Nat) (is := [5]) (by decide) (itr_seq ?_))
  walk_at "ev"
  refine ⟨_, _, .tup _, ns, nat, fun n => .int (s.getD n 0), rfl, by omega, ?_, ?_⟩
  · intro n hx
    refine tg_name ?_
    walk_at "ev"
    refine o2_ixI n rfl (hn n hx) ?_
    exact ⟨rfl, rfl⟩
  rw [show ns.map (fun n => D.int (s.getD n 0)) = inD (timesOf s ns) by rw [inD, List.map_map]; rfl]
  walk_at "ev"
  refine ⟨_, ⟨lo, timesOf s ns, rfl, by rw [List.length_map]; omega, rfl⟩, ?_⟩
  walk_at "ev"
  have hkl := kept_lt k lo (timesOf s ns)
  have hkn := kept_len k lo (timesOf s ns)
  rw [List.length_map] at hkl hkn
  refine evr_lcm (α := Nat) (is := [6]) (by decide) (itr_seq ?_)
  walk_at "ev"
  refine ⟨_, _, .lst _, keptK k lo (timesOf s ns), nat, fun a => nat (ns.getD a 0), rfl, by omega, ?_, ?_⟩
  · intro a ha
    refine tg_name ?_
    walk_at "ev"
    refine o2_ixF 0 (.tup _) a rfl (hkl a ha) ?_
    exact ⟨rfl, rfl⟩
  refine ⟨true, _, .lst _, (fun e => nomatch e), ?_⟩
  show D.tup _ = D.tup (naD ((keptK k lo (timesOf s ns)).map fun a => ns.getD a 0))
  rw [naD, List.map_map]; rfl
def openB (goal ns : List Nat) : Bool := goal.all fun n => decide (n ∈ ns)
def sIsOpen (K : PySem.W.Frag) : List D → D → Prop := fun ds d => ∃ (s : List Int) (goal : List Nat) (fs : List St2) (ns : List Nat), ds = [ldD K s goal fs, .tup (naD ns)] ∧ goal.length ≤ 1000 ∧ d = .bl (openB goal ns)
theorem m_is_open (T : Tx K mg) : Met P w K mg base 1 (He.ga K "Leads") "is_open" (spD K (sIsOpen K)) [] := by
  refine metD T.fn_Leads_is_open T.cl_Leads T.me_Leads_is_open sc_Leads.is_open b_Leads.is_open (fun hr => d_Leads.is_open T hr) (pureP_len ?_) ?_
  · rintro ds d ⟨s, goal, fs, ns, rfl, _⟩; rfl
  rintro ds M R ⟨rfl, d, ⟨s, goal, fs, ns, rfl, hl, rfl⟩, rfl⟩
  unfold t_Leads.is_open
  walk_at "ev"
  refine evr_lcf (α := Nat) (is := [2]) (by decide) (itr_seq ?_)
  walk_at "ev"
  refine ⟨_, _, .tup _, goal, nat, nat, fun n => !decide (n ∈ ns), rfl, by omega, ?_, ?_⟩
  · intro n hx
    refine tg_name ?_
    show TvR K _ _ _ _
    walk_at "ev"
    refine o2_notInI (ns := ns.map Int.ofNat) (l := false) ?_ ?_
    · rw [List.map_map]; exact .tup _
    walk_at "ev"
    have e : decide (((n : Nat) : Int) ∈ ns.map Int.ofNat) = decide (n ∈ ns) := by
      refine decide_eq_decide.mpr ⟨fun h => ?_, fun h => List.mem_map.mpr ⟨n, h, rfl⟩⟩
      obtain ⟨m, hm, e⟩ := List.mem_map.mp h
      rw [← show m = n from Int.ofNat.inj e]; exact hm
    rw [e]
    refine ⟨rfl, rfl, fun _ => ?_⟩
    walk_at "ev"
    exact ⟨rfl, rfl⟩
  walk_at "ev"
  refine o2_eqNil (ds := (goal.filter fun n => !decide (n ∈ ns)).map nat) (ps := (goal.filter fun n => !decide (n ∈ ns)).map fun n : Nat => .int (n : Int)) (.lst _) ?_ ?_ ?_ ?_
  · generalize goal.filter _ = l
    induction l with
    | nil => exact .nil
    | cons a l ih => exact .cons (.int _) ih
  · generalize goal.filter _ = l
    induction l with
    | nil => rfl
    | cons a l ih => simp [PyData.canLayAll0, PyData.canLay0, ih]
  · generalize goal.filter _ = l
    induction l with
    | nil => exact Nat.zero_le _
    | cons a l ih => simp [PyData.depthAll, PyData.depth]; omega
  · rw [List.isEmpty_map, filter_empty]; rfl
end

/-! #### MI -/
/-! ### some way leads to what is kept -/
/-- numbers that the walk comes by ahead of the p-th stretch -/
inductive Rch (s : List Int) (goal : List Nat) (fs : List St2) : Nat → List Nat → Prop
  | base : Rch s goal fs 0 (List.range s.length)
  | keep {p : Nat} {ns : List Nat} (h : Rch s goal fs p ns) (hp : p < fs.length) : Rch s goal fs (p + 1) ns
  | go {p : Nat} {ns : List Nat} (k : Kd) (hk : k ≠ .delay) (h : Rch s goal fs p ns) (hp : p < fs.length) (ho : openB goal (stepN s ns ⟨k, (fs.getD p (0, 0)).1⟩) = true) : Rch s goal fs (p + 1) (stepN s ns ⟨k, (fs.getD p (0, 0)).1⟩)
theorem Rch.on {s : List Int} {goal : List Nat} {fs : List St2} {p : Nat} {ns : List Nat} (h : Rch s goal fs p ns) : ∀ {r : Nat}, p ≤ r → r ≤ fs.length → Rch s goal fs r ns
  | 0, h1, _ => by rw [Nat.le_zero.mp h1] at h; exact h
  | r + 1, h1, h2 => by
    rcases Nat.lt_or_ge p (r + 1) with c | c
    · exact (Rch.on h (by omega) (by omega)).keep (by omega)
    · rw [show r + 1 = p by omega]; exact h
theorem stepN_sub {s : List Int} {nums : List Nat} {m : Mb} : ∀ x ∈ stepN s nums m, x ∈ nums := by
  intro x hx
  obtain ⟨a, ha, rfl⟩ := List.mem_map.mp hx
  have := kept_lt _ _ _ a ha
  rw [List.length_map] at this
  exact getD_mem _ this
theorem fold_sub (s : List Int) : ∀ (ms : List Mb) (nums : List Nat), ∀ x ∈ ms.foldl (stepN s) nums, x ∈ nums
  | [], _, _, h => h
  | _ :: ms, _, x, h => stepN_sub x (fold_sub s ms _ x h)
theorem range_getD (nums : List Nat) : ((List.range nums.length).map fun a => nums.getD a 0) = nums := by
  refine List.ext_getElem (by rw [List.length_map, List.length_range]) fun i h1 h2 => ?_
  rw [List.getElem_map, List.getElem_range, List.getD_eq_getElem?_getD, List.getElem?_eq_getElem h2]; rfl
theorem filter_all {α : Type} {p : α → Bool} {xs : List α} (h : ∀ x ∈ xs, p x = true) : xs.filter p = xs := List.filter_eq_self.mpr h
/-- where all lies so far apart, all is kept -/
theorem step_all {s : List Int} {r : Int} {nums : List Nat} (hf : Far s r nums) (m : Mb) (hm : m.k = .last ∨ m.k = .first) (hq : m.q ≤ r) : stepN s nums m = nums := by
  unfold stepN
  have e : keptK m.k m.q (timesOf s nums) = List.range nums.length := by
    rcases hm with e | e
    · rw [e]
      show (List.range (timesOf s nums).length).filter _ = _
      rw [times_len]
      refine filter_all fun a ha => ?_
      have ha := List.mem_range.mp ha
      by_cases c : a + 1 = nums.length
      · rw [decide_eq_true c]; rfl
      · rw [timesOf_get s nums (by omega), timesOf_get s nums ha]
        have := (getD_far hf (show a < a + 1 by omega) (by omega)).2
        rw [decide_eq_true (show m.q ≤ s.getD (nums.getD (a + 1) 0) 0 - s.getD (nums.getD a 0) 0 by omega), Bool.or_true]
    · rw [e]
      show (List.range (timesOf s nums).length).filter _ = _
      rw [times_len]
      refine filter_all fun a ha => ?_
      have ha := List.mem_range.mp ha
      by_cases c : a = 0
      · rw [decide_eq_true c]; rfl
      · rw [timesOf_get s nums ha, timesOf_get s nums (by omega)]
        have := (getD_far hf (show a - 1 < a by omega) ha).2
        rw [decide_eq_true (show m.q ≤ s.getD (nums.getD a 0) 0 - s.getD (nums.getD (a - 1) 0) 0 by omega), Bool.or_true]
  rw [e, range_getD]
theorem step_delay {s : List Int} {nums : List Nat} (q : Int) : stepN s nums ⟨.delay, q⟩ = nums := by
  unfold stepN
  have e : keptK .delay q (timesOf s nums) = List.range nums.length := by
    show List.range (timesOf s nums).length = _
    rw [times_len]
  show (keptK .delay q (timesOf s nums)).map _ = _
  rw [e, range_getD]
/-- two quiets with no gap between them keep the same -/
theorem step_like {s : List Int} {r : Int} {nums : List Nat} (hf : Far s r nums) (k : Kd) (hk : k = .last ∨ k = .first) (q l : Int) (h : ∀ i, i + 1 < nums.length → (q ≤ s.getD (nums.getD (i + 1) 0) 0 - s.getD (nums.getD i 0) 0 ↔ l ≤ s.getD (nums.getD (i + 1) 0) 0 - s.getD (nums.getD i 0) 0)) :
    stepN s nums ⟨k, q⟩ = stepN s nums ⟨k, l⟩ := by
  unfold stepN
  congr 1
  show keptK k q (timesOf s nums) = keptK k l (timesOf s nums)
  rcases hk with e | e
  · rw [e]
    show (List.range (timesOf s nums).length).filter _ = (List.range (timesOf s nums).length).filter _
    rw [times_len]
    refine List.filter_congr fun a ha => ?_
    have ha := List.mem_range.mp ha
    by_cases c : a + 1 = nums.length
    · rw [decide_eq_true c]; rfl
    · rw [timesOf_get s nums (by omega), timesOf_get s nums ha, decide_eq_decide.mpr (h a (by omega))]
  · rw [e]
    show (List.range (timesOf s nums).length).filter _ = (List.range (timesOf s nums).length).filter _
    rw [times_len]
    refine List.filter_congr fun a ha => ?_
    have ha := List.mem_range.mp ha
    by_cases c : a = 0
    · rw [decide_eq_true c]; rfl
    · rw [timesOf_get s nums ha, timesOf_get s nums (by omega)]
      have := h (a - 1) (by omega)
      rw [show a - 1 + 1 = a by omega] at this
      rw [decide_eq_decide.mpr this]
theorem openB_of {goal ns : List Nat} (h : ∀ x ∈ goal, x ∈ ns) : openB goal ns = true := List.all_eq_true.mpr fun x hx => decide_eq_true (h x hx)
theorem st2_get {fs : List St2} {r : Nat} (h : r < fs.length) : fs.getD r (0, 0) = fs[r] := by rw [List.getD_eq_getElem?_getD, List.getElem?_eq_getElem h]; rfl
/-- the greatest quiet of the stretches before the p-th -/
def hiq (fs : List St2) : Nat → Int
  | 0 => 1
  | p + 1 => (fs.getD p (0, 0)).2
theorem rch_fold {s : List Int} {fs : List St2} {goal : List Nat} (hO : StrO 13 (gapsOf s) fs) : ∀ (ms : List Mb) (nums : List Nat) (p : Nat), (∀ m ∈ ms, m.k ≠ .limit ∧ m.q ≤ 13) → p ≤ fs.length → Rch s goal fs p nums → Far s (hiq fs p) nums → (∀ x ∈ nums, x < s.length) →
    goal = ms.foldl (stepN s) nums → Rch s goal fs fs.length goal
  | [], nums, p, _, hp, hr, _, _, hg => by
    have e : goal = nums := hg
    rw [e] at hr ⊢
    exact hr.on hp (Nat.le_refl _)
  | m :: ms, nums, p, hm, hp, hr, hf, hn, hg => by
    have hm' : ∀ m ∈ ms, m.k ≠ .limit ∧ m.q ≤ 13 := fun u hu => hm u (List.mem_cons_of_mem _ hu)
    obtain ⟨m1, m2⟩ := hm m (List.mem_cons_self ..)
    have hg : goal = ms.foldl (stepN s) (stepN s nums m) := hg
    have h1 : 1 ≤ hiq fs p := by
      cases p with
      | zero => exact Int.le_refl _
      | succ p =>
        have := hO.each _ (getD_mem (xs := fs) (i := p) (0, 0) (by omega))
        show 1 ≤ (fs.getD p (0, 0)).2
        omega
    by_cases hd : m.k = .delay
    · have e : stepN s nums m = nums := by
        obtain ⟨k, q⟩ := m
        have hd : k = .delay := hd
        rw [hd]; exact step_delay q
      rw [e] at hg
      exact rch_fold hO ms nums p hm' hp hr hf hn hg
    have hk : m.k = .last ∨ m.k = .first := by
      revert m1 hd
      cases m.k <;> simp
    by_cases hq : m.q ≤ hiq fs p
    · rw [step_all hf m hk hq] at hg
      exact rch_fold hO ms nums p hm' hp hr hf hn hg
    obtain ⟨st, hst, c1, c2⟩ := hO.cov m.q (by omega) m2
    obtain ⟨r, hrl, er⟩ := List.mem_iff_getElem.mp hst
    have er2 : fs.getD r (0, 0) = st := (st2_get hrl).trans er
    have hpr : p ≤ r := by
      rcases Nat.lt_or_ge r p with c | c
      · exfalso
        obtain ⟨p', rfl⟩ : ∃ p', p = p' + 1 := ⟨p - 1, by omega⟩
        have hq : ¬ m.q ≤ (fs.getD p' (0, 0)).2 := hq
        rcases Nat.lt_or_ge r p' with c2 | c2
        · have := (List.pairwise_iff_getElem.mp hO.ord) r p' hrl (by omega) c2
          rw [← st2_get hrl, ← st2_get (by omega : p' < fs.length), er2] at this
          have := (hO.each _ (getD_mem (xs := fs) (i := p') (0, 0) (by omega))).2.1
          omega
        · have : r = p' := by omega
          subst this
          rw [er2] at hq
          omega
      · exact c
    have gp : ∀ a b, a < b → b < s.length → (st.1 ≤ s.getD b 0 - s.getD a 0 → st.2 ≤ s.getD b 0 - s.getD a 0) := fun a b h1 h2 => hO.gap st hst _ (gaps_mem h1 h2)
    have e : stepN s nums m = stepN s nums ⟨m.k, st.1⟩ := by
      refine step_like hf m.k hk m.q st.1 fun i hi => ?_
      have h2 := (getD_far hf (show i < i + 1 by omega) hi).1
      have h3 := gp _ _ h2 (hn _ (getD_mem (xs := nums) (i := i + 1) 0 hi))
      constructor
      · intro h; omega
      · intro h; have := h3 h; omega
    have hgo : openB goal (stepN s nums ⟨m.k, (fs.getD r (0, 0)).1⟩) = true := by
      rw [er2, ← e]
      refine openB_of fun x hx => ?_
      rw [hg] at hx
      exact fold_sub s ms _ x hx
    have hr2 := Rch.go m.k hd (hr.on hpr (by omega)) hrl hgo
    rw [er2, ← e] at hr2
    refine rch_fold hO ms _ (r + 1) hm' (by omega) hr2 ?_ (stepN_lt hn) hg
    show Far s (fs.getD r (0, 0)).2 _
    rw [er2, e]
    have hfk := far_kept hf (by omega) m.k hk st.1
    have hlt := stepN_lt (m := ⟨m.k, st.1⟩) hn
    refine List.Pairwise.imp_of_mem (fun {a b} ha hb hab => ⟨hab.1, gp a b hab.1 (hlt b hb) hab.2⟩) hfk
theorem rch_kept {s : List Int} {fs : List St2} {ms : List Mb} (hu : Up s) (hO : StrO 13 (gapsOf s) fs) (hm : ∀ m ∈ ms, m.k ≠ .limit ∧ m.q ≤ 13) : Rch s (keptNums ms s) fs fs.length (keptNums ms s) :=
  rch_fold hO ms (List.range s.length) 0 hm (Nat.zero_le _) .base (far_range hu) (fun x h => List.mem_range.mp h) rfl
theorem kept_numOk {s : List Int} {ms : List Mb} (hu : Up s) (hl : NoL ms) : NumOk s.length (keptNums ms s) :=
  ⟨(far_fold s ms _ hl (far_range hu)).1.imp fun h => h.1, (foldN s ms).1⟩

/-! #### MJ -/
/-! ### the sets of events as keys of a table -/
def subs : Nat → List (List Nat)
  | 0 => [[]]
  | n + 1 => subs n ++ (subs n).map fun l => l ++ [n]
theorem subs_len : ∀ n, (subs n).length = 2 ^ n
  | 0 => rfl
  | n + 1 => by show (subs n ++ (subs n).map _).length = _; rw [List.length_append, List.length_map, subs_len n, Nat.pow_succ]; omega
theorem subs_mem : ∀ (n : Nat) (ns : List Nat), NumOk n ns → ns ∈ subs n
  | 0, ns, h => by
    cases ns with
    | nil => exact List.mem_singleton.mpr rfl
    | cons a l => exact absurd (h.2 a (List.mem_cons_self ..)) (Nat.not_lt_zero _)
  | n + 1, ns, h => by
    rcases List.eq_nil_or_concat ns with e | ⟨l, a, e⟩
    · subst e
      exact List.mem_append_left _ (subs_mem n [] ⟨.nil, fun x hx => nomatch hx⟩)
    · rw [List.concat_eq_append] at e
      subst e
      obtain ⟨h1, h2⟩ := h
      rw [List.pairwise_append] at h1
      have ha := h2 a (List.mem_append_right _ (List.mem_singleton.mpr rfl))
      have hl : ∀ x ∈ l, x < a := fun x hx => h1.2.2 x hx a (List.mem_singleton.mpr rfl)
      by_cases c : a = n
      · subst c
        exact List.mem_append_right _ (List.mem_map.mpr ⟨l, subs_mem a l ⟨h1.1, hl⟩, rfl⟩)
      · refine List.mem_append_left _ (subs_mem n (l ++ [a]) ⟨List.pairwise_append.mpr h1, fun x hx => ?_⟩)
        rcases List.mem_append.mp hx with hx | hx
        · have := hl x hx; omega
        · rw [List.mem_singleton.mp hx]; omega
theorem NumOk.up {n m : Nat} {ns : List Nat} (h : NumOk n ns) (hn : n ≤ m) : NumOk m ns := ⟨h.1, fun x hx => Nat.lt_of_lt_of_le (h.2 x hx) hn⟩
def hN (ns : List Nat) : Int := reduceHash (Builtin.Tuple.tupleHashOf (ns.map fun n : Nat => hashInt (n : Int)))
def nodB : List Int → Bool
  | [] => true
  | x :: xs => (xs.all fun y => !(x == y)) && nodB xs
theorem nodB_ok : ∀ {xs : List Int}, nodB xs = true → xs.Nodup
  | [], _ => .nil
  | x :: xs, h => by
    have h : ((xs.all fun y => !(x == y)) && nodB xs) = true := h
    rw [Bool.and_eq_true, List.all_eq_true] at h
    refine List.nodup_cons.mpr ⟨fun hx => ?_, nodB_ok h.2⟩
    have := h.1 x hx
    simp at this
theorem hN_nodB : nodB ((subs 8).map hN) = true := by kernel_rfl
theorem nodup_inj {α β : Type} {f : α → β} : ∀ {xs : List α}, (xs.map f).Nodup → ∀ {a b : α}, a ∈ xs → b ∈ xs → f a = f b → a = b
  | x :: xs, h, a, b, ha, hb, e => by
    rw [List.map_cons, List.nodup_cons] at h
    rcases List.mem_cons.mp ha with ha | ha <;> rcases List.mem_cons.mp hb with hb | hb
    · rw [ha, hb]
    · exact absurd (List.mem_map.mpr ⟨b, hb, by rw [← ha, e]⟩) h.1
    · exact absurd (List.mem_map.mpr ⟨a, ha, by rw [← hb, e]⟩) h.1
    · exact nodup_inj h.2 ha hb e
theorem hN_inj {a b : List Nat} (ha : NumOk 8 a) (hb : NumOk 8 b) (e : hN a = hN b) : a = b := nodup_inj (nodB_ok hN_nodB) (subs_mem 8 a ha) (subs_mem 8 b hb) e
abbrev kN (n : Nat) : L2.Key := Sum.inl (n : Int)
theorem kN_inj {a b : List Nat} (h : a.map kN = b.map kN) : a = b := by
  refine List.map_inj_right (f := kN) (fun x y e => ?_) |>.mp h
  have := Sum.inl.inj e
  omega
theorem hash_kN {P : Program} {w : World} (ns : List Nat) : (tupleKind (mixKind P w)).hash (ns.map kN) = hN ns := by
  show reduceHash (Builtin.Tuple.tupleHashOf ((ns.map kN).map (keyH w))) = _
  rw [List.map_map]; rfl
/-! ### a table -/
abbrev Tbl := List (List Nat × Int)
def tbD (tb : Tbl) : List (List L2.Key × D) := tb.map fun p => (p.1.map kN, .int p.2)
structure TbOk (n : Nat) (tb : Tbl) : Prop where
  each : ∀ p ∈ tb, NumOk n p.1 ∧ 1 ≤ p.2
  nd : (tb.map (·.1)).Nodup
theorem TbOk.len {n : Nat} {tb : Tbl} (h : TbOk n tb) (hn : n ≤ 8) : tb.length ≤ 256 := by
  have := h.nd.length_le_of_subset (l₂ := subs 8) fun x hx => by
    obtain ⟨p, hp, rfl⟩ := List.mem_map.mp hx
    exact subs_mem 8 _ ((h.each p hp).1.up hn)
  rw [List.length_map, subs_len] at this
  exact this
theorem TbOk.hash {P : Program} {w : World} {n : Nat} {tb : Tbl} (h : TbOk n tb) (hn : n ≤ 8) : ((tbD tb).map fun kv => (tupleKind (mixKind P w)).hash kv.1).Nodup := by
  have e : (tbD tb).map (fun kv => (tupleKind (mixKind P w)).hash kv.1) = (tb.map (·.1)).map hN := by
    unfold tbD
    rw [List.map_map, List.map_map]
    exact List.map_congr_left fun p _ => hash_kN p.1
  rw [e]
  refine List.pairwise_map.mpr (List.Pairwise.imp_of_mem (fun {x y} hx hy ne e => ne ?_) h.nd)
  obtain ⟨p, hp, rfl⟩ := List.mem_map.mp hx
  obtain ⟨q, hq, rfl⟩ := List.mem_map.mp hy
  exact hN_inj ((h.each p hp).1.up hn) ((h.each q hq).1.up hn) e
def valT (tb : Tbl) (ns : List Nat) : Option Int := (tb.find? fun p => decide (p.1 = ns)).map (·.2)
def putT (tb : Tbl) (ns : List Nat) (v : Int) : Tbl := if (tb.any fun p => decide (p.1 = ns)) = true then tb.map (fun p => if p.1 = ns then (p.1, v) else p) else tb ++ [(ns, v)]
theorem dec_kN (a b : List Nat) : decide (a.map kN = b.map kN) = decide (a = b) := decide_eq_decide.mpr ⟨kN_inj, fun e => by rw [e]⟩
theorem valD_tb (ns : List Nat) : ∀ tb : Tbl, valD (tbD tb) (ns.map kN) = (valT tb ns).map D.int
  | [] => rfl
  | p :: tb => by
    have ih := valD_tb ns tb
    unfold valD valT tbD at *
    rw [List.map_cons, List.find?_cons, List.find?_cons]
    show Option.map _ (match decide (p.1.map kN = ns.map kN) with | true => _ | false => _) = _
    rw [dec_kN]
    cases decide (p.1 = ns) with
    | true => rfl
    | false => exact ih
theorem any_tb (ns : List Nat) : ∀ tb : Tbl, ((tbD tb).any fun kv => decide (kv.1 = ns.map kN)) = tb.any fun p => decide (p.1 = ns)
  | [] => rfl
  | p :: tb => by
    show (decide (p.1.map kN = ns.map kN) || (tbD tb).any _) = (decide (p.1 = ns) || tb.any _)
    rw [dec_kN, any_tb ns tb]
theorem putKD_tb (tb : Tbl) (ns : List Nat) (v : Int) : putKD (tbD tb) (ns.map kN) (.int v) = tbD (putT tb ns v) := by
  unfold putKD putT
  rw [any_tb]
  by_cases c : (tb.any fun p => decide (p.1 = ns)) = true
  · rw [if_pos c, if_pos c]
    unfold tbD
    rw [List.map_map, List.map_map]
    refine List.map_congr_left fun p _ => ?_
    show (if p.1.map kN = ns.map kN then _ else _) = _
    by_cases e : p.1 = ns
    · show _ = (fun p : List Nat × Int => (p.1.map kN, D.int p.2)) (if p.1 = ns then (p.1, v) else p)
      rw [if_pos (by rw [e]), if_pos e]
    · show _ = (fun p : List Nat × Int => (p.1.map kN, D.int p.2)) (if p.1 = ns then (p.1, v) else p)
      rw [if_neg (fun h => e (kN_inj h)), if_neg e]
  · rw [if_neg c, if_neg c]
    unfold tbD
    rw [List.map_append]; rfl
theorem putT_keys {tb : Tbl} {ns : List Nat} {v : Int} : (putT tb ns v).map (·.1) = if ns ∈ tb.map (·.1) then tb.map (·.1) else tb.map (·.1) ++ [ns] := by
  have hm : (tb.any fun p => decide (p.1 = ns)) = true ↔ ns ∈ tb.map (·.1) := by
    rw [List.any_eq_true, List.mem_map]
    exact ⟨fun ⟨p, hp, e⟩ => ⟨p, hp, of_decide_eq_true e⟩, fun ⟨p, hp, e⟩ => ⟨p, hp, decide_eq_true e⟩⟩
  unfold putT
  by_cases c : ns ∈ tb.map (·.1)
  · rw [if_pos (hm.mpr c), if_pos c, List.map_map]
    refine List.map_congr_left fun p _ => ?_
    show (if p.1 = ns then (p.1, v) else p).1 = p.1
    split <;> rfl
  · rw [if_neg (fun h => c (hm.mp h)), if_neg c, List.map_append]; rfl
theorem putT_sub {tb : Tbl} {ns : List Nat} {v : Int} : ∀ x ∈ tb.map (·.1), x ∈ (putT tb ns v).map (·.1) := fun x hx => by
  rw [putT_keys]
  split
  · exact hx
  · exact List.mem_append_left _ hx
theorem putT_self {tb : Tbl} {ns : List Nat} {v : Int} : ns ∈ (putT tb ns v).map (·.1) := by
  rw [putT_keys]
  split
  · assumption
  · exact List.mem_append_right _ (List.mem_singleton.mpr rfl)
theorem TbOk.put {n : Nat} {tb : Tbl} {ns : List Nat} {v : Int} (h : TbOk n tb) (hn : NumOk n ns) (hv : 1 ≤ v) : TbOk n (putT tb ns v) := by
  refine ⟨fun p hp => ?_, ?_⟩
  · unfold putT at hp
    split at hp
    · obtain ⟨q, hq, e⟩ := List.mem_map.mp hp
      have hq := h.each q hq
      by_cases c : q.1 = ns
      · rw [if_pos c] at e
        rw [← e]
        exact ⟨hq.1, hv⟩
      · rw [if_neg c] at e
        rw [← e]; exact hq
    · rcases List.mem_append.mp hp with hp | hp
      · exact h.each p hp
      · rw [List.mem_singleton.mp hp]; exact ⟨hn, hv⟩
  · rw [putT_keys]
    by_cases c : ns ∈ tb.map (·.1)
    · rw [if_pos c]; exact h.nd
    · rw [if_neg c]
      refine List.nodup_append.mpr ⟨h.nd, List.pairwise_singleton _ _, fun a ha b hb e => ?_⟩
      rw [List.mem_singleton.mp hb] at e
      exact c (e ▸ ha)
theorem valT_pos {n : Nat} {tb : Tbl} (h : TbOk n tb) (ns : List Nat) : 0 ≤ (valT tb ns).getD 0 ∧ (ns ∈ tb.map (·.1) → 1 ≤ (valT tb ns).getD 0) := by
  unfold valT
  cases e : tb.find? fun p => decide (p.1 = ns) with
  | none =>
    refine ⟨Int.le_refl _, fun hm => ?_⟩
    obtain ⟨p, hp, e2⟩ := List.mem_map.mp hm
    have := List.find?_eq_none.mp e p hp
    rw [decide_eq_true e2] at this
    exact absurd rfl this
  | some p =>
    have := (h.each p (List.mem_of_find?_eq_some e)).2
    exact ⟨by show 0 ≤ p.2; omega, fun _ => this⟩

/-! #### W24 -/
/-! ### numbers that a record leaves rise -/
theorem lim_rise (q : Int) (ts : List Int) : ∀ n, ((List.range n).foldl (limStep q ts) []).Pairwise (· < ·) ∧ ∀ x ∈ (List.range n).foldl (limStep q ts) [], x < n
  | 0 => ⟨.nil, fun x hx => nomatch hx⟩
  | n + 1 => by
    obtain ⟨h1, h2⟩ := lim_rise q ts n
    rw [List.range_succ, List.foldl_append]
    generalize (List.range n).foldl (limStep q ts) [] = f at *
    show (limStep q ts f n).Pairwise _ ∧ ∀ x ∈ limStep q ts f n, x < n + 1
    unfold limStep
    split
    · refine ⟨List.pairwise_append.mpr ⟨h1, List.pairwise_singleton _ _, fun a ha b hb => ?_⟩, fun x hx => ?_⟩
      · rw [List.mem_singleton.mp hb]; exact h2 a ha
      · rcases List.mem_append.mp hx with hx | hx
        · have := h2 x hx; omega
        · rw [List.mem_singleton.mp hx]; omega
    · exact ⟨h1, fun x hx => by have := h2 x hx; omega⟩
theorem kept_rise' (k : Kd) (q : Int) (ts : List Int) : (keptK k q ts).Pairwise (· < ·) := by
  by_cases h : k = .limit
  · subst h; exact (lim_rise q ts ts.length).1
  · exact kept_rise k h q ts
theorem stepN_ok {n : Nat} {s : List Int} {ns : List Nat} {m : Mb} (h : NumOk n ns) : NumOk n (stepN s ns m) := by
  refine ⟨?_, fun x hx => h.2 x (stepN_sub x hx)⟩
  unfold stepN
  rw [List.pairwise_map]
  refine List.Pairwise.imp_of_mem (fun {a b} ha hb hab => ?_) (kept_rise' m.k m.q _)
  have hb := kept_lt m.k m.q (timesOf s ns) b hb
  rw [times_len] at hb
  have := (List.pairwise_iff_getElem.mp h.1) a b (by omega) hb hab
  rw [List.getD_eq_getElem?_getD, List.getElem?_eq_getElem (by omega : a < ns.length), List.getD_eq_getElem?_getD, List.getElem?_eq_getElem hb]
  exact this
theorem NumOk.len {n : Nat} {ns : List Nat} (h : NumOk n ns) : ns.length ≤ n := by
  have nd : ns.Nodup := h.1.imp fun h e => by omega
  have := nd.length_le_of_subset (l₂ := List.range n) fun x hx => List.mem_range.mpr (h.2 x hx)
  rw [List.length_range] at this
  exact this
theorem range_ok (n : Nat) : NumOk n (List.range n) := ⟨List.pairwise_lt_range, fun x hx => List.mem_range.mp hx⟩
def kinds3 : List Kd := [.first, .last, .limit]
theorem kinds3_ne {i : Nat} {k : Kd} (h : kinds3[i]? = some k) : k ≠ .delay := by
  have := List.mem_of_getElem? h
  intro e
  subst e
  revert this
  decide
theorem kinds3_of {k : Kd} (h : k ≠ .delay) : ∃ i, i < 3 ∧ kinds3[i]? = some k := by
  cases k with
  | first => exact ⟨0, by decide, rfl⟩
  | last => exact ⟨1, by decide, rfl⟩
  | limit => exact ⟨2, by decide, rfl⟩
  | delay => exact absurd rfl h
theorem nums_kD (ns : List Nat) : (ns.map kN).map kD = naD ns := by rw [List.map_map]; rfl
theorem keyIn_nums (tb : Tbl) (ns : List Nat) : KeyIn (.dT (tbD tb)) (.tup (naD ns)) ((valT tb ns).map D.int) (fun v => .dT (putKD (tbD tb) (ns.map kN) v)) := by
  rw [← valD_tb, ← nums_kD]
  exact .t _ _
theorem getD_int (o : Option Int) : (o.map D.int).getD (.int 0) = .int (o.getD 0) := by cases o <;> rfl
/-! ### the table behind a stretch -/
/-- what is left of the j-th numbers of a table -/
def lf (s : List Int) (fs : List St2) (p : Nat) (tb : Tbl) (j : Nat) (k : Kd) : List Nat := stepN s (tb.getD j ([], 0)).1 ⟨k, (fs.getD p (0, 0)).1⟩
/-- what the table behind holds, behind i pairs of the table and c kinds of the next one -/
structure BhOk (s : List Int) (goal : List Nat) (fs : List St2) (p : Nat) (tb : Tbl) (i c : Nat) (bh : Tbl) : Prop where
  ok : TbOk s.length bh
  old : ∀ x ∈ tb.map (·.1), x ∈ bh.map (·.1)
  new : ∀ j, j < i → ∀ k, k ≠ .delay → openB goal (lf s fs p tb j k) = true → lf s fs p tb j k ∈ bh.map (·.1)
  now : ∀ e, e < c → ∀ k, kinds3[e]? = some k → openB goal (lf s fs p tb i k) = true → lf s fs p tb i k ∈ bh.map (·.1)
section
variable {s : List Int} {goal : List Nat} {fs : List St2} {p : Nat} {tb bh : Tbl} {i c : Nat} {k : Kd}
theorem BhOk.start (h : TbOk s.length tb) : BhOk s goal fs p tb 0 0 tb := ⟨h, fun _ h => h, fun j h => absurd h (Nat.not_lt_zero _), fun j h => absurd h (Nat.not_lt_zero _)⟩
theorem BhOk.skip (h : BhOk s goal fs p tb i c bh) (hk : kinds3[c]? = some k) (ho : openB goal (lf s fs p tb i k) = false) : BhOk s goal fs p tb i (c + 1) bh := by
  refine ⟨h.ok, h.old, h.new, fun e he k' hk' ho' => ?_⟩
  rcases Nat.lt_or_ge e c with q | q
  · exact h.now e q k' hk' ho'
  · have : e = c := by omega
    subst this
    rw [hk] at hk'
    cases hk'
    rw [ho] at ho'
    cases ho'
theorem BhOk.put {v : Int} (h : BhOk s goal fs p tb i c bh) (hk : kinds3[c]? = some k) (hn : NumOk s.length (lf s fs p tb i k)) (hv : 1 ≤ v) : BhOk s goal fs p tb i (c + 1) (putT bh (lf s fs p tb i k) v) := by
  refine ⟨h.ok.put hn hv, fun x hx => putT_sub x (h.old x hx), fun j hj k' hk' ho' => putT_sub _ (h.new j hj k' hk' ho'), fun e he k' hk' ho' => ?_⟩
  rcases Nat.lt_or_ge e c with q | q
  · exact putT_sub _ (h.now e q k' hk' ho')
  · have : e = c := by omega
    subst this
    rw [hk] at hk'
    cases hk'
    exact putT_self
theorem BhOk.next (h : BhOk s goal fs p tb i 3 bh) : BhOk s goal fs p tb (i + 1) 0 bh := by
  refine ⟨h.ok, h.old, fun j hj k hk ho => ?_, fun e he => absurd he (Nat.not_lt_zero _)⟩
  rcases Nat.lt_or_ge j i with q | q
  · exact h.new j q k hk ho
  · have : j = i := by omega
    subst this
    obtain ⟨e, he, hke⟩ := kinds3_of hk
    exact h.now e he k hke ho
theorem BhOk.done (h : BhOk s goal fs p tb tb.length 0 bh) (hr : ∀ ns, Rch s goal fs p ns → ns ∈ tb.map (·.1)) : ∀ ns, Rch s goal fs (p + 1) ns → ns ∈ bh.map (·.1) := by
  intro ns hns
  cases hns with
  | keep h1 hp => exact h.old _ (hr _ h1)
  | go k hk h1 hp ho =>
    obtain ⟨q, hq, e⟩ := List.mem_map.mp (hr _ h1)
    obtain ⟨j, hj, ej⟩ := List.mem_iff_getElem.mp hq
    have e2 : (tb.getD j ([], 0)).1 = q.1 := by rw [List.getD_eq_getElem?_getD, List.getElem?_eq_getElem hj]; show tb[j].1 = _; rw [ej]
    rw [e] at e2
    have := h.new j hj k hk
    unfold lf at this
    rw [e2] at this
    exact this ho
end
theorem itm_get {tb : Tbl} {i : Nat} {d : D} (h : (itmD (tbD tb))[i]? = some d) : i < tb.length ∧ d = .tup [.tup (naD (tb.getD i ([], 0)).1), .int (tb.getD i ([], 0)).2] := by
  unfold itmD tbD at h
  rw [List.map_map, List.getElem?_map] at h
  cases e : tb[i]? with
  | none => rw [e] at h; cases h
  | some p =>
    rw [e] at h
    have hi := (List.getElem?_eq_some_iff.mp e).1
    have e2 : tb.getD i ([], 0) = p := by rw [List.getD_eq_getElem?_getD, e]; rfl
    refine ⟨hi, ?_⟩
    rw [e2, ← Option.some.inj h, ← nums_kD]; rfl
section
variable {P : Program} {w : World} {K : PySem.W.Frag} {mg : Str → Option Value} {base : Heap}
def sWays (K : PySem.W.Frag) : List D → (D → Prop) → Prop := fun ds Q => ∃ (s : List Int) (goal : List Nat) (fs : List St2), ds = [ldD K s goal fs] ∧ s.length ≤ 8 ∧ fs.length ≤ 57 ∧ StrO 13 (gapsOf s) fs ∧ NumOk s.length goal ∧ Rch s goal fs fs.length goal ∧ Q = fun d => ∃ v : Int, d = .int v ∧ 1 ≤ v
theorem m_ways (T : Tx K mg) : Met P w K mg base 6 (He.ga K "Leads") "ways_to_goal" (spM K (pureE (sWays K))) [] := by
  refine metD T.fn_Leads_ways_to_goal T.cl_Leads T.me_Leads_ways_to_goal sc_Leads.ways_to_goal b_Leads.ways_to_goal (fun hr => d_Leads.ways_to_goal T hr) ?_ ?_
  · rintro ds M R ⟨_, Q, ⟨s, goal, fs, rfl, _⟩, _⟩; rfl
  rintro ds M R ⟨rfl, Q, ⟨s, goal, fs, rfl, hs, hfl, hO, hgo, hR, rfl⟩, rfl⟩
  unfold t_Leads.ways_to_goal
  have hgl := hgo.len
  refine st_seq (st_set (evr_dispT fun a ha => ?_))
  walk_at "ev"
  rw [List.length_map]
  refine ⟨by omega, by omega, ?_⟩
  walk_at "ev"
  refine ⟨(List.range s.length).map kN, rfl, ?_, ?_⟩
  · rw [Int.toNat_natCast, rgD_map, nums_kD]
  refine st_cut (fun ρ' M' => ∃ a tb b c d e f g h i j, ρ' = [some (ldD K s goal fs), some (.loc a), b, c, d, e, f, g, h, i, j] ∧ M' = [(a, .dT (tbD tb))] ∧ TbOk s.length tb ∧ ∀ ns, Rch s goal fs fs.length ns → ns ∈ tb.map (·.1)) ?_ ?_
  · refine st_for (is := [2] ++ (is2 3 4 ++ [])) (itr_enumX ?_)
    walk_at "ev"
    refine ⟨_, _, _, rfl, .lst _, ?_⟩
    rw [enD_map]
    refine ⟨fun p ρ' M' => ∃ a tb b c d e f g h i j, ρ' = [some (ldD K s goal fs), some (.loc a), b, c, d, e, f, g, h, i, j] ∧ M' = [(a, .dT (tbD tb))] ∧ TbOk s.length tb ∧ ∀ ns, Rch s goal fs p ns → ns ∈ tb.map (·.1), ⟨a, [(List.range s.length, 1)], _, _, _, _, _, _, _, _, _, rfl, rfl, ⟨fun p hp => ?_, ?_⟩, fun ns h => ?_⟩, ?_, ?_⟩
    · rw [List.mem_singleton.mp hp]; exact ⟨range_ok _, Int.le_refl _⟩
    · exact List.pairwise_singleton _ _
    · cases h; exact List.mem_singleton.mpr rfl
    · rintro p d ρ' M' hd ⟨a, tb, b, c, d', e, f, g, h, i, j, rfl, rfl, ok, hr⟩
      obtain ⟨hp, rfl⟩ := enM_get ((0, 0) : St2) hd
      have hst := hO.each _ (getD_mem (xs := fs) (i := p) (0, 0) hp)
      have hlfe : ∀ j k, lf s fs p tb j k = stepN s (tb.getD j ([], 0)).1 ⟨k, (fs.getD p (0, 0)).1⟩ := fun _ _ => rfl
      generalize hlo : fs.getD p (0, 0) = st at *
      obtain ⟨lo, hi⟩ := st
      have hst : 2 ≤ lo ∧ lo ≤ hi ∧ hi ≤ 13 := hst
      show TgR _ _ K (.tup [nat p, .tup [.int lo, .int hi]]) _ _
      walk_at "ev"
      refine o2_mulI (i := 2) (.small ⟨by decide, by decide⟩) ?_
      walk_at "ev"
      refine o2_shlI ⟨by omega, by omega, by decide⟩ ?_
      walk_at "ev"
      refine o2_fdivI (divW (by decide) (by decide)) ?_
      have hW : 1 ≤ (1 * 2 ^ (2 * (hi - lo + 1)).toNat - 1 : Int) / 3 ∧ (1 * 2 ^ (2 * (hi - lo + 1)).toNat - 1 : Int) / 3 < 2 ^ 64 := by
        obtain ⟨n, hn⟩ : ∃ n : Nat, hi - lo = (n : Int) := ⟨(hi - lo).toNat, by omega⟩
        have hn2 : n ≤ 11 := by omega
        rw [hn]
        have : ∀ n : Fin 12, 1 ≤ (1 * 2 ^ (2 * (((n : Nat) : Int) + 1)).toNat - 1 : Int) / 3 ∧ (1 * 2 ^ (2 * (((n : Nat) : Int) + 1)).toNat - 1 : Int) / 3 < 2 ^ 64 := by decide +kernel
        exact this ⟨n, by omega⟩
      generalize (1 * 2 ^ (2 * (hi - lo + 1)).toNat - 1 : Int) / 3 = W at *
      walk_at "ev"
      refine ol_dictT memH (ok.hash hs) fun bb hbb => ?_
      walk_at "ev"
      refine st_items (i0 := 1) (is := is2 7 8) rfl (List.Perm.swap _ _ _) ⟨fun i ρ' M' => ∃ bh x7 x8 x9 x10, M' = [(bb, .dT (tbD bh))] ∧ BhOk s goal fs p tb i 0 bh ∧ ρ' = [some (ldD K s goal fs), some (.loc a), some (nat p), some (.int lo), some (.int hi), some (.int W), some (.loc bb), x7, x8, x9, x10], ⟨tb, _, _, _, _, rfl, .start ok, rfl⟩, ?_, ?_⟩
      · rintro i d ρ' M' hd ⟨bh, x7, x8, x9, x10, rfl, hb, rfl⟩
        obtain ⟨hi', rfl⟩ := itm_get hd
        have hnm := ok.each _ (getD_mem (xs := tb) (i := i) ([], 0) hi')
        have hlf : ∀ k, lf s fs p tb i k = stepN s (tb.getD i ([], 0)).1 ⟨k, lo⟩ := hlfe i
        generalize htb : tb.getD i ([], 0) = nm at *
        obtain ⟨ns, many⟩ := nm
        obtain ⟨hns, hmany⟩ := hnm
        have hns : NumOk s.length ns := hns
        have hmany : 1 ≤ many := hmany
        walk_at "ev"
        refine st_for (is := [9]) (itr_konst (T.kinds) (ds := kinds3.map fun k => .str k.str) (fun F => .cons (.str _) (.cons (.str _) (.cons (.str _) .nil))) ?_)
        refine ⟨fun c ρ' M' => ∃ bh x9 x10, M' = [(bb, .dT (tbD bh))] ∧ BhOk s goal fs p tb i c bh ∧ ρ' = [some (ldD K s goal fs), some (.loc a), some (nat p), some (.int lo), some (.int hi), some (.int W), some (.loc bb), some (.tup (naD ns)), some (.int many), x9, x10], ⟨bh, _, _, rfl, hb, rfl⟩, ?_, ?_⟩
        · rintro c d ρ' M' hd ⟨bh, x9, x10, rfl, hb, rfl⟩
          rw [List.getElem?_map] at hd
          cases hkc : kinds3[c]? with
          | none => rw [hkc] at hd; cases hd
          | some k =>
          rw [hkc] at hd
          cases hd
          have hk := kinds3_ne hkc
          refine tg_name ?_
          walk_at "ev"
          refine ev_meth ?_
          walk_at "ev"
          refine ⟨_, _, 5, _, .ins _ _, rfl, m_left T, by decide, ?_⟩
          walk_at "ev"
          refine ⟨_, ⟨s, goal, fs, ns, k, p, rfl, hk, hp, by rw [hlo]; show 1 ≤ lo; omega, hns.2, by have := hns.len; omega, rfl⟩, ?_⟩
          rw [hlo]
          have hlk : lf s fs p tb i k = stepN s ns ⟨k, lo⟩ := hlf k
          rw [show stepN s ns ⟨k, ((lo, hi) : St2).1⟩ = lf s fs p tb i k from hlk.symm]
          have hlok : NumOk s.length (lf s fs p tb i k) := by rw [hlk]; exact stepN_ok hns
          walk_at "ev"
          refine ev_meth ?_
          walk_at "ev"
          refine ⟨_, _, 1, _, .ins _ _, rfl, m_is_open T, by decide, ?_⟩
          walk_at "ev"
          refine ⟨_, ⟨s, goal, fs, _, rfl, by omega, rfl⟩, ?_⟩
          walk_at "ev"
          refine itB (fun ho => ?_) (fun ho => ?_)
          · refine st_dput ?_
            walk_at "ev"
            refine evr_dget2 ?_
            walk_at "ev"
            refine ⟨_, _, rfl, memH, trivial, ?_⟩
            walk_at "ev"
            refine ⟨_, _, _, memH, keyIn_nums _ _, ?_⟩
            rw [getD_int]
            walk_at "ev"
            refine o2_mulI (.small2 ⟨by omega, hW.2⟩) ?_
            walk_at "ev"
            have hbl := hb.ok.len hs
            refine ⟨_, _, _, _, [], rfl, List.Perm.refl _, ?_, keyIn_nums _ _, ?_⟩
            · show (tbD bh).length ≤ 100000
              unfold tbD
              rw [List.length_map]; omega
            have hv : 1 ≤ (valT bh (lf s fs p tb i k)).getD 0 + many * W := by
              have h1 := (valT_pos hb.ok (lf s fs p tb i k)).1
              have h2 := Int.mul_pos (show 0 < many by omega) (show 0 < W by omega)
              omega
            exact ⟨_, _, _, by rw [putKD_tb], hb.put hkc hlok hv, rfl⟩
          · walk_at "ev"
            exact ⟨bh, _, _, rfl, hb.skip hkc ho, rfl⟩
        · rintro ρ' M' ⟨bh, x9, x10, rfl, hb, rfl⟩
          exact ⟨bh, _, _, _, _, rfl, hb.next, rfl⟩
      · rintro ρ' M' ⟨bh, x7, x8, x9, x10, rfl, hb, rfl⟩
        have e : (itmD (tbD tb)).length = tb.length := by unfold itmD tbD; rw [List.length_map, List.length_map]
        rw [e] at hb
        refine st_sub (M1 := [(a, .dT (tbD tb))]) (List.Perm.refl _) ?_
        walk_at "ev"
        exact ⟨bb, bh, _, _, _, _, _, _, _, _, _, rfl, rfl, hb.ok, hb.done hr⟩
    · rintro ρ' M' ⟨a, tb, b, c, d, e, f, g, h, i, j, rfl, rfl, ok, hr⟩
      rw [List.length_map, List.length_zipIdx] at hr
      exact ⟨a, tb, b, c, d, e, f, g, h, i, j, rfl, rfl, ok, hr⟩
  · rintro ρ' M' ⟨a, tb, b, c, d, e, f, g, h, i, j, rfl, rfl, ok, hr⟩
    walk_at "ev"
    refine evr_dget2 ?_
    walk_at "ev"
    refine ⟨_, _, rfl, memH, trivial, ?_⟩
    walk_at "ev"
    refine ⟨_, _, _, memH, keyIn_nums _ _, ?_⟩
    rw [getD_int]
    exact ⟨_, rfl, (valT_pos ok goal).2 (hr goal hR)⟩
end

/-! #### W25 -/
section
variable {P : Program} {w : World} {K : PySem.W.Frag} {mg : Str → Option Value} {base : Heap}
def sCountLeading : List D → (D → Prop) → Prop := fun ds Q => ∃ (s : List Int) (ns : List Nat), ds = [.lst (inD s), .lst (naD ns), .int 13] ∧ Up s ∧ s.length ≤ 8 ∧ NumOk s.length ns ∧ (∀ fs, StrO 13 (gapsOf s) fs → Rch s ns fs fs.length ns) ∧ Q = fun d => ∃ v : Int, d = .int v ∧ 1 ≤ v
theorem c_count_leading (T : Tx K mg) : Cal P w K mg base 7 "count_leading" (spE K sCountLeading) [] := by
  refine calD T.fn_count_leading T.mg_count_leading sc_count_leading b_count_leading (fun hr => d_count_leading T hr) ?_ ?_
  · rintro ds M R ⟨_, Q, ⟨s, ns, rfl, _⟩, _⟩; rfl
  rintro ds M R ⟨rfl, Q, ⟨s, ns, rfl, hu, hs, hn, hR, rfl⟩, rfl⟩
  unfold t_count_leading
  walk_at "ev"
  refine evr_call (c_check_stream T) (by decide) ?_
  walk_at "ev"
  refine ⟨_, ⟨s, rfl, hu, rfl⟩, ?_⟩
  walk_at "ev"
  refine evr_call (c_check_numbers T) (by decide) ?_
  walk_at "ev"
  refine ⟨_, ⟨s, ns, rfl, hn, rfl⟩, ?_⟩
  walk_at "ev"
  refine itN (by decide) ?_
  walk_at "ev"
  refine evr_methM ?_
  refine evr_makeG (k_Leads T) (by decide) ?_
  walk_at "ev"
  refine ⟨fun fl => ∃ fs : List St2, fl = ldF s ns fs ∧ fs.length ≤ 57 ∧ StrO 13 (gapsOf s) fs, fun y => ⟨y, s, ns, rfl, hs, rfl, rfl⟩, ?_⟩
  rintro fl ⟨fs, rfl, hl, hO⟩
  refine ⟨_, _, 6, _, .ins _ _, rfl, m_ways T, by decide, ?_⟩
  walk_at "ev"
  refine ⟨[], [], _, List.Perm.refl _, ⟨rfl, _, ⟨s, ns, fs, rfl, hs, hl, hO, hn, hR fs hO, rfl⟩, rfl⟩, ?_⟩
  rintro d Ma h
  exact h
end

/-! #### W26 -/
section
variable {P : Program} {w : World} {K : PySem.W.Frag} {mg : Str → Option Value} {base : Heap}
/-! ### the law -/
def sTurnedT : List D → D → Prop := fun ds d => ∃ rs : List Rec, ds = [.tup (rcD rs)] ∧ rs.length ≤ 1000 ∧ (∀ r ∈ rs, r.1 ≠ .limit) ∧ d = .lst (rcD (rs.map turnR))
theorem c_turnedT (T : Tx K mg) : Cal P w K mg base 1 "_law_turned" (spD K sTurnedT) [] := by
  refine calD T.fn__law_turned T.mg__law_turned sc__law_turned b__law_turned (fun hr => d__law_turned T hr) (pureP_len ?_) ?_
  · rintro ds d ⟨rs, rfl, _⟩; rfl
  rintro ds M R ⟨rfl, d, ⟨rs, rfl, hl, hr, rfl⟩, rfl⟩
  unfold t__law_turned
  walk_at "ev"
  refine evr_disp fun p hp => ?_
  refine tpr_cons (evr_str (evr_str (tpr_cons (evr_str (evr_str (tpr_cons (evr_str (evr_str (tpr_nil ?_)))))))))
  refine ⟨turnK, rfl, rfl, by decide, ?_⟩
  rw [show mergeD [] turnK = turnK from rfl]
  walk_at "ev"
  refine evr_lcm (α := Rec) (is := is2 2 3) (by decide) (itr_seq ?_)
  walk_at "ev"
  refine ⟨_, _, .tup _, rs, Enc.en, fun r => Enc.en (turnR r), rfl, by omega, ?_, ?_⟩
  · rintro ⟨k, q⟩ hx
    show TgR _ _ K (.tup [.str k.str, .int q]) _ _
    walk_at "ev"
    refine evr_dget ?_
    walk_at "ev"
    have hki := KeyIn.k turnK (.inr k.str)
    rw [turn_key k (hr _ hx)] at hki
    refine ⟨_, .dK turnK, _, _, rfl, memH, hki, ?_⟩
    walk_at "ev"
    exact ⟨rfl, rfl⟩
  · show D.lst _ = D.lst _
    rw [rcD, List.map_map]; rfl
theorem sm_turn {rs : List Rec} (h : SmOk rs) : SmOk (rs.map turnR) := by
  refine ⟨by rw [List.length_map]; exact h.1, fun r hr => ?_⟩
  obtain ⟨u, hu, rfl⟩ := List.mem_map.mp hr
  obtain ⟨⟨h1, h2, h3⟩, h4⟩ := h.2 u hu
  refine ⟨⟨h1, h2, fun hd => h3 fun e => hd ?_⟩, fun e => h4 ?_⟩
  · show u.1.turn = .delay
    rw [e]; rfl
  · have e : u.1.turn = .limit := e
    rw [← turn_turn u.1, e]; rfl
theorem ms_turn (rs : List Rec) : msOf (rs.map turnR) = turnMs (msOf rs) := by unfold msOf turnMs; rw [List.map_map, List.map_map]; rfl
theorem cut_min {α : Type} {f : α → D} {xs : List α} (k : Nat) : cutD (xs.map f) none (some (k : Int)) = (xs.take k).map f := by
  unfold cutD
  rw [HT.sIx_nat, HT.sIx_none, Nat.sub_zero, List.drop_zero, List.length_map, List.map_take]
  rcases Nat.le_total k xs.length with c | c
  · rw [Nat.min_eq_left c]
  · rw [Nat.min_eq_right c, List.take_of_length_le (by rw [List.length_map]; exact Nat.le_refl _), List.take_of_length_le (by rw [List.length_map]; exact c)]
theorem up_take {s : List Int} (h : Up s) (k : Nat) : Up (s.take k) := by
  intro i hi
  have h2 := h i (by rw [List.length_take] at hi; omega)
  have e : ∀ j, j < (s.take k).length → (s.take k).getD j 0 = s.getD j 0 := fun j hj => by
    rw [List.getD_eq_getElem?_getD, List.getD_eq_getElem?_getD, List.getElem?_take]
    rw [List.length_take] at hj
    rw [if_pos (by omega)]
  rw [e i (by omega), e (i + 1) hi]
  exact h2
theorem told_nums (ms : List Mb) (s : List Int) : (toldM ms s).map (fun x => x.1) = keptNums ms s := by
  rw [← foldV_nums]
  refine List.ext_getElem? fun i => ?_
  rw [List.getElem?_map, toldM_get]
  cases (foldV ms s).nums[i]? <;> rfl
theorem turned_nums {ms : List Mb} {s : List Int} (h : NoL ms) : (keptNums ms s).reverse.map (fun n : Nat => D.int ((s.length : Int) - 1 - (n : Int))) = naD (keptNums (turnMs ms) (rv s)) := by
  rw [kept_dual ms s h, naD, List.map_reverse, List.map_reverse, List.map_map]
  congr 1
  refine List.map_congr_left fun n hn => ?_
  have := (foldN s ms).1 n hn
  show D.int _ = D.int _
  congr 1
  show (s.length : Int) - 1 - (n : Int) = ((s.length - 1 - n : Nat) : Int)
  omega
def sLaw : List D → D → Prop := fun ds d => ∃ ns : List Int, ds = [.seq (inD ns)] ∧ ns.length ≤ 63 ∧ d = .bl true
abbrev lawN : List Str := ["_law_script", "_law_cell", "_law_s", "_law_members_here", "_law_some_here", "_law_row", "_law_twin", "_law_form", "_law_mirror", "_law_other", "_law_turn", "_law_stream_here", "_law_numbers", "_law_turned_here", "_law_there", "_law_one", "_law_number", "_law_time"]
theorem law_st (T : Tx K mg) : ∀ ds M R, pureP sLaw ds M R → StR K (t_law P w K mg base 10) (ini lawN ds) M { nx := fun _ M' => R .non M', rt := R } := by
  rintro ds M R ⟨rfl, d, ⟨ns, rfl, hns, rfl⟩, rfl⟩
  unfold t_law
  refine st_seq (st_for (is := [1]) (itr_seq (evr_sl ?_)))
  walk_at "ev"
  refine o2_addL (xs := inD ns) (ys := [D.int 0]) (.seq _) (.lst _) (by rw [List.length_map]; show ns.length + 1 ≤ _; omega) ?_
  walk_at "ev"
  refine ⟨_, .lst _, true, _, .lst _, ?_⟩
  rw [show inD ns ++ [D.int 0] = (ns ++ [0]).map D.int by rw [List.map_append]; rfl, show (3 : Int) = ((3 : Nat) : Int) from rfl, cut_min]
  generalize (ns ++ [0]).take 3 = cs at *
  refine ⟨fun i ρ' M' => ∃ a b c d e f g h i j k l m n o p q, ρ' = [some (.seq (inD ns)), a, b, c, d, e, f, g, h, i, j, k, l, m, n, o, p, q], ⟨_, _, _, _, _, _, _, _, _, _, _, _, _, _, _, _, _, rfl⟩, ?_, ?_⟩
  · rintro ci d ρ' M' hd ⟨a, b, c, d, e, f, g, h, i, j, k, l, m, n, o, p, q, rfl⟩
    obtain ⟨hi, rfl⟩ := map_get (0 : Int) hd
    generalize cs.getD ci 0 = cell at *
    refine tg_name (st_sub (M1 := M') (M2 := []) (by rw [List.append_nil]) ?_)
    walk_at "ev"
    refine evr_callM (c_state T) (by decide) ?_
    walk_at "ev"
    refine ⟨[], [], _, List.Perm.refl _, ⟨cell, rfl, rfl, rfl⟩, ?_⟩
    rintro d Ma ⟨p0, s0, rfl, hs0, rfl⟩
    walk_at "ev"
    refine evr_callM (c_some T) (by decide) ?_
    walk_at "ev"
    refine ⟨[(p0, s0.o)], [], _, List.Perm.refl _, ⟨p0, s0, rfl, hs0, rfl, rfl⟩, ?_⟩
    rintro d Ma ⟨rs, s1, rfl, ok1, hs1, rfl⟩
    walk_at "ev"
    refine evr_callM (c_some T) (by decide) ?_
    walk_at "ev"
    refine ⟨[(p0, s1.o)], [], _, List.Perm.refl _, ⟨p0, s1, rfl, hs1, rfl, rfl⟩, ?_⟩
    rintro d Ma ⟨rs2, s2, rfl, ok2, hs2, rfl⟩
    obtain ⟨hl, hm, hq⟩ := sm_ms ok1
    obtain ⟨hl2, hm2, hq2⟩ := sm_ms ok2
    have hlt := noL_turn hl
    have hlt2 := noL_turn hl2
    walk_at "ev"
    refine evr_make (k_Row T) (by decide) ?_
    refine ear_c (evr_call (c_made T) (by decide) ?_)
    walk_at "ev"
    refine ⟨_, ⟨rs, rfl, ok1, rfl⟩, ?_⟩
    walk_at "ev"
    refine ⟨_, ⟨msOf rs, rfl, hl, rfl⟩, ?_⟩
    walk_at "ev"
    refine evr_make (k_Row T) (by decide) ?_
    refine ear_c (evr_call (c_made T) (by decide) ?_)
    refine ear_c (evr_call (c_turned T) (by decide) ?_)
    walk_at "ev"
    refine ⟨_, ⟨rs, rfl, by have := ok1.1; omega, fun r hr => (ok1.2 r hr).2, rfl⟩, ?_⟩
    walk_at "ev"
    refine ⟨_, ⟨rs.map turnR, rfl, sm_turn ok1, rfl⟩, ?_⟩
    rw [ms_turn]
    walk_at "ev"
    refine ⟨_, ⟨turnMs (msOf rs), rfl, hlt, rfl⟩, ?_⟩
    have htm := turn_len (msOf rs)
    have hrl := recs_len (msOf rs)
    have hrk : ∀ r ∈ recsOf (msOf rs), r.1 ≠ .limit := fun r hr => by
      obtain ⟨m, hm, e1, _, _⟩ := rec_of _ r hr
      rw [← e1]; exact hl m hm
    walk_at "ev"
    refine evr_call (c_normal_form T) (by decide) ?_
    walk_at "ev"
    refine ⟨_, ⟨msOf rs, rfl, hl, by omega, rfl⟩, ?_⟩
    walk_at "ev"
    refine evr_call (c_normal_form T) (by decide) ?_
    walk_at "ev"
    refine ⟨_, ⟨turnMs (msOf rs), rfl, hlt, by omega, rfl⟩, ?_⟩
    walk_at "ev"
    refine ol_listA (.tup _) ?_
    refine evr_call (c_turnedT T) (by decide) ?_
    walk_at "ev"
    refine ⟨_, ⟨recsOf (msOf rs), rfl, by omega, hrk, rfl⟩, ?_⟩
    rw [recs_turn]
    refine o2_neE ((recsOf (msOf rs)).map turnR) ((recsOf (msOf rs)).map turnR) rfl rfl ?_
    walk_at "ev"
    refine itnN rfl ?_
    walk_at "ev"
    refine evr_call (c_idle_members T) (by decide) ?_
    walk_at "ev"
    refine ⟨_, ⟨msOf rs, rfl, hl, by omega, rfl⟩, ?_⟩
    walk_at "ev"
    refine evr_call (c_idle_members T) (by decide) ?_
    walk_at "ev"
    refine ⟨_, ⟨turnMs (msOf rs), rfl, hlt, by omega, rfl⟩, ?_⟩
    rw [idle_turn]
    refine o2_neE ((idleOf (msOf rs)).map Int.ofNat) ((idleOf (msOf rs)).map Int.ofNat) (by show D.lst _ = D.lst _; rw [List.map_map]; rfl) (by show D.lst _ = D.lst _; rw [List.map_map]; rfl) ?_
    walk_at "ev"
    refine itnN rfl ?_
    walk_at "ev"
    refine evr_make (k_Row T) (by decide) ?_
    refine ear_c (evr_call (c_made T) (by decide) ?_)
    walk_at "ev"
    refine ⟨_, ⟨rs2, rfl, ok2, rfl⟩, ?_⟩
    walk_at "ev"
    refine ⟨_, ⟨msOf rs2, rfl, hl2, rfl⟩, ?_⟩
    walk_at "ev"
    refine evr_make (k_Row T) (by decide) ?_
    refine ear_c (evr_call (c_made T) (by decide) ?_)
    refine ear_c (evr_call (c_turned T) (by decide) ?_)
    walk_at "ev"
    refine ⟨_, ⟨rs2, rfl, by have := ok2.1; omega, fun r hr => (ok2.2 r hr).2, rfl⟩, ?_⟩
    walk_at "ev"
    refine ⟨_, ⟨rs2.map turnR, rfl, sm_turn ok2, rfl⟩, ?_⟩
    rw [ms_turn]
    walk_at "ev"
    refine ⟨_, ⟨turnMs (msOf rs2), rfl, hlt2, rfl⟩, ?_⟩
    walk_at "ev"
    refine evr_call (c_pairs_right T) (by decide) ?_
    walk_at "ev"
    refine ⟨_, ⟨msOf rs, msOf rs2, rfl, hl, hl2, by omega, by omega, fun u hu => ?_, rfl⟩, ?_⟩
    · rcases List.mem_append.mp hu with hu | hu
      · have := hq u hu; omega
      · have := hq2 u hu; omega
    walk_at "ev"
    refine st_for (is := [10]) (itr_rng1 ?_)
    walk_at "ev"
    refine ⟨⟨by decide, by decide⟩, ?_⟩
    refine ⟨fun i ρ' M' => ∃ (st : Ds) (x7 x8 x9 x10 x11 : Option D), (st.ok ∧ (i = 0 ∨ ∃ ts : List Int, x11 = some (.lst (inD ts)) ∧ StrOk ts)) ∧ M' = [(p0, st.o)] ∧ ρ' = [some (.seq (inD ns)), some (.int cell), some (.loc p0), some (.lst (rcD rs)), some (.lst (rcD rs2)), some (rowD K (msOf rs)), some (rowD K (turnMs (msOf rs))), x7, x8, x9, x10, x11, l, m, n, o, p, q], ⟨s2, _, _, _, _, _, ⟨hs2, .inl rfl⟩, rfl, rfl⟩, ?_, ?_⟩
    · rintro ti d ρ' M' hd ⟨st, x7, x8, x9, x10, x11, ⟨hst, _⟩, rfl, rfl⟩
      obtain ⟨hti, rfl⟩ := rgD_get.mp hd
      walk_at "ev"
      refine evr_callM (c_stream T) (by decide) ?_
      refine ear_c (evr_var rfl (ear_c (evr_int (ear_c (evr_lst ?_)))))
      walk_at "ev"
      refine evr_callM (c_digit T) (by decide) ?_
      walk_at "ev"
      refine ⟨[(p0, st.o)], [], _, List.Perm.refl _, ⟨p0, st, 12, rfl, hst, by decide, by decide, rfl, rfl⟩, ?_⟩
      rintro d Ma ⟨x, st1, rfl, x0, x1, hst1, rfl⟩
      walk_at "ev"
      refine ⟨[(p0, st1.o)], [], _, List.Perm.refl _, ⟨p0, st1, [1, 2, 3, 4, 5, 1 + x], rfl, hst1, rfl, fun g hg => ?_, rfl, rfl⟩, ?_⟩
      · have : g = 1 ∨ g = 2 ∨ g = 3 ∨ g = 4 ∨ g = 5 ∨ g = 1 + x := by simpa using hg
        omega
      rintro d Ma ⟨ts, st2, rfl, hts, hst2, rfl⟩
      walk_at "ev"
      have htl := hts.1
      refine evr_call (c_numbers_right T) (by decide) ?_
      walk_at "ev"
      refine ⟨_, ⟨msOf rs, ts, rfl, hl, by omega, hts.2.up, by omega, rfl⟩, ?_⟩
      walk_at "ev"
      refine o2_neNilE ts (.lst _) ?_
      walk_at "ev"
      cases ts with
      | nil =>
        refine itBF rfl ?_
        walk_at "ev"
        exact ⟨st2, _, _, _, _, _, ⟨hst2, .inr ⟨[], rfl, hts⟩⟩, rfl, rfl⟩
      | cons t0 ts =>
        refine itBT rfl ?_
        walk_at "ev"
        refine evr_call (c_pasts_right T) (by decide) ?_
        walk_at "ev"
        refine ⟨_, ⟨rs, t0 :: ts, rfl, ok1, hts, Nat.succ_pos _, rfl⟩, ?_⟩
        walk_at "ev"
        exact ⟨st2, _, _, _, _, _, ⟨hst2, .inr ⟨_, rfl, hts⟩⟩, rfl, rfl⟩
    · rintro ρ' M' ⟨st, x7, x8, x9, x10, x11, ⟨hst, hx⟩, rfl, rfl⟩
      rw [rgD_length] at hx
      rcases hx with hx | ⟨ts, rfl, hts⟩
      · exact absurd hx (by decide)
      have hu8 : Up (ts.take 8) := up_take hts.2.up 8
      have hl8 : (ts.take 8).length ≤ 8 := by rw [List.length_take]; omega
      have cut8 : cutD (ts.map D.int) none (some 8) = (ts.take 8).map D.int := cut_min 8
      have htold := told_cond (K := K) (msOf rs) (ts.take 8) hl (by omega) hu8 (by omega)
      have hnums := told_nums (msOf rs) (ts.take 8)
      have htl : (toldM (msOf rs) (ts.take 8)).length ≤ 8 := by
        rw [← List.length_map (f := fun x : Nat × Int × Nat × Nat => x.1), hnums]
        exact Nat.le_trans (foldN (ts.take 8) (msOf rs)).2 hl8
      have hrch := fun fs (hO : StrO 13 (gapsOf (ts.take 8)) fs) => rch_kept (ms := msOf rs) hu8 hO fun m hm => ⟨hl m hm, by have := hq m hm; omega⟩
      have hrch2 := fun fs (hO : StrO 13 (gapsOf (rv (ts.take 8))) fs) => rch_kept (ms := turnMs (msOf rs)) (rv_up hu8) hO fun m hm => ⟨hlt m hm, by
        obtain ⟨u, hu, rfl⟩ := List.mem_map.mp hm
        have := hq u hu
        show u.q ≤ 13
        omega⟩
      have hno := kept_numOk hu8 hl
      have hno2 := kept_numOk (rv_up hu8) hlt
      have htn := turned_nums (s := ts.take 8) hl
      have hrvD := rv_D (ts.take 8)
      have hrvl := rv_len (ts.take 8)
      generalize ts.take 8 = s8 at *
      refine st_seq (st_set (evr_lcm (α := Nat × Int × Nat × Nat) (is := [15]) (by decide) (itr_seq ?_)))
      refine evr_call (c_told_events T) (by decide) ?_
      walk_at "ev"
      refine evr_sl ?_
      walk_at "ev"
      refine ⟨_, .lst _, ?_⟩
      rw [cut8]
      walk_at "ev"
      refine ⟨_, htold, ?_⟩
      refine ⟨_, _, .lst _, toldM (msOf rs) s8, toldD K, fun x => nat x.1, rfl, by omega, ?_, ?_⟩
      · intro x hx
        walk_at "ev"
        exact ⟨rfl, rfl⟩
      rw [show (toldM (msOf rs) s8).map (fun x => nat x.1) = naD (keptNums (msOf rs) s8) by rw [← hnums, naD, List.map_map]; rfl]
      walk_at "ev"
      refine evr_lcm (α := Nat) (is := [16]) (by decide) (itr_seq ?_)
      walk_at "ev"
      refine ⟨_, .lst _, ?_⟩
      refine ⟨_, _, .lst _, (keptNums (msOf rs) s8).reverse, nat, fun n => .int ((s8.length : Int) - 1 - (n : Int)), by rw [naD, List.map_reverse], by rw [List.length_reverse]; have := hno.len; omega, ?_, ?_⟩
      · intro n hn
        walk_at "ev"
        refine evr_sl ?_
        walk_at "ev"
        refine ⟨_, .lst _, ?_⟩
        rw [cut8]
        walk_at "ev"
        rw [List.length_map]
        walk_at "ev"
        exact ⟨rfl, rfl⟩
      rw [htn]
      walk_at "ev"
      refine evr_lcm (α := Int) (is := [17]) (by decide) (itr_seq ?_)
      walk_at "ev"
      refine evr_sl ?_
      walk_at "ev"
      refine ⟨_, .lst _, ?_⟩
      rw [cut8]
      refine ⟨_, .lst _, ?_⟩
      refine ⟨_, _, .lst _, s8.reverse, .int, fun t => .int (0 - t), by rw [List.map_reverse], by rw [List.length_reverse]; omega, ?_, ?_⟩
      · intro t ht
        walk_at "ev"
        exact ⟨rfl, rfl⟩
      rw [← hrvD]
      walk_at "ev"
      refine evr_callE (c_count_leading T) (by decide) ?_
      walk_at "ev"
      refine evr_sl ?_
      walk_at "ev"
      refine ⟨_, .lst _, ?_⟩
      rw [cut8]
      walk_at "ev"
      refine ⟨_, ⟨s8, keptNums (msOf rs) s8, rfl, hu8, hl8, hno, hrch, rfl⟩, ?_⟩
      rintro d ⟨v, rfl, hv⟩
      walk_at "ev"
      refine itN (by omega) ?_
      walk_at "ev"
      refine evr_callE (c_count_leading T) (by decide) ?_
      walk_at "ev"
      refine ⟨_, ⟨rv s8, keptNums (turnMs (msOf rs)) (rv s8), rfl, rv_up hu8, by omega, hno2, hrch2, rfl⟩, ?_⟩
      rintro d ⟨v2, rfl, hv2⟩
      walk_at "ev"
      refine itN (by omega) ?_
      walk_at "ev"
      refine evr_callM (c_trains_right T) (by decide) ?_
      walk_at "ev"
      refine ⟨[(p0, st.o)], [], _, List.Perm.refl _, ⟨p0, st, rs, rfl, hst, ok1, rfl, rfl⟩, ?_⟩
      rintro d Ma ⟨st3, rfl, hst3, rfl⟩
      walk_at "ev"
      exact ⟨_, _, _, _, _, _, _, _, _, _, _, _, _, _, _, _, _, rfl⟩
  · rintro ρ' M' ⟨a, b, c, d, e, f, g, h, i, j, k, l, m, n, o, p, q, rfl⟩
    walk_at "ev"
    rfl
theorem ok_law (T : Tx K mg) {f : Addr} {fd : FuncData} (F : FunD K "law" "law" (defArgs s_law) (defBody s_law) (defScope s_law) [] [] f fd) : FnOk P w K mg base C0 11 f fd ["_law_script"] (spD K sLaw) :=
  F.ok sc_law (spM_len (pureP_len (n := 1) (by rintro ds d ⟨ns, rfl, _⟩; rfl))) fun cdv A outer s H vs Q E hr hsp => ⟨t_law P w K mg base 10, (d_law T (outer := outer) (H := H) (E := E) hr).nox, body_ok (ps := ["_law_script"]) hsp (law_st T)⟩
end

end Qr

namespace Qr
open PySem L2
theorem wok_start {K : PySem.W.Frag} (H : Hp) : Wok K H H H [] H := ⟨Ex.refl _, Ex.refl _, Ex.refl _, fun _ _ e => .inl e, fun _ h => (nomatch h), .nil⟩
theorem law_sp {K : PySem.W.Frag} {H : Hp} {a : Addr} {ns : List Int} (hn : ns.length ≤ 63) (hS : SqL K H a (ns.map V.int)) : spD K sLaw [.ref a] H (fun v _ => v = .bl true) fun _ _ _ => False :=
  ⟨H, H, [], [.seq (inD ns)], _, .cons (.seq hS (reps_ints ns)) .nil, wok_start H, ⟨rfl, .bl true, ⟨ns, rfl, hn, rfl⟩, rfl⟩, fun v d M' F' H' _ r e => by
    have e : d = .bl true := e
    subst e
    cases r
    rfl⟩
theorem law_facts {P : Program} {w : World} {K : PySem.W.Frag} {h : Heap} {mg : Str → Option Value} {f : Addr} (X : K.In h) (G : h.Ns mainGlobals mg) (hfa : mg ("law" : Str) = some (.ref f)) (c : SaysN K) :
    ∃ fd : FuncData, (∀ (s : Shared) (v : Value), BindsTo s fd ⟨[v], []⟩ [("_law_script", v)]) ∧ ∀ base : Heap, K.In base → base.Ns mainGlobals mg → FnOk P w K mg base C0 11 f fd ["_law_script"] (spD K sLaw) := by
  have T : Tx K mg := ⟨c, h, X, G⟩
  obtain ⟨fd, F⟩ := T.fn_law
  have e := hfa.symm.trans T.mg_law
  cases e
  have b := FunD.bindsA (ps := ["_law_script"]) F b_law
  exact ⟨fd, fun s v => b s [v] rfl, fun base _ _ => ok_law T F⟩
end Qr
open PySem PySem.W PySem.Calls PyProof.Rows
set_option maxRecDepth 100000 in
set_option maxHeartbeats 0 in
theorem PySem.Challenge.cw_quietrows_k90_whole_time_turned_round_holds : PySem.Challenge.rw_quietrows_k90_whole_time_turned_round.Holds := by
  w_on; o_law
  refine HandSHeadRun.head_any (r := OpenLaw.row PySem.Challenge.rw_quietrows_k90_whole_time_turned_round) (q := view (OpenLaw.row PySem.Challenge.rw_quietrows_k90_whole_time_turned_round).prog [109]) (H := Qr.hk) (ob := Qr.ob) (M := 20000) (loose := Qr.loose) (d := HandSHeadRun.topDef (OpenLaw.row PySem.Challenge.rw_quietrows_k90_whole_time_turned_round).prog 109) (kwd := []) Qr.ob_eq
    (by kernel_rfl) (fun s => by kernel_rfl) Qr.run (by kernel_rfl) (by kernel_rfl) (by kernel_rfl) (by rfl) (by first | assumption | decide +kernel) (by decide +kernel) ⟨rfl, rfl, rfl, rfl, rfl, by decide +kernel⟩ ?hw ?hc
  case hw => w_witness2
  case hc =>
    refine L2.walk_ofE (l := PySem.Challenge.rw_quietrows_k90_whole_time_turned_round) (n := 63) (k := 11) (x := "_law_script") (CX := Qr.C0) rfl (by decide) (by kernel_rfl) ⟨rfl, by decide, by decide⟩ ?F (fun _ _ _ _ z => z)
    intro w mg fa h Y G hmg0
    obtain ⟨K, KX, c⟩ := Y
    have hmg : mg ("law" : PySem.Str) = some (.ref fa) := by
      have e : (HandSHeadRun.topDef (OpenLaw.row PySem.Challenge.rw_quietrows_k90_whole_time_turned_round).prog 109).name = ("law" : PySem.Str) := by kernel_rfl
      rw [← e]
      exact hmg0
    obtain ⟨fd, hb, hF⟩ := Qr.law_facts (P := (PySem.Challenge.rw_quietrows_k90_whole_time_turned_round).prog) (w := w) KX G hmg c
    exact ⟨K, fd, _, KX, hb, fun H a ns hl _ hS => Qr.law_sp hl hS, hF⟩
