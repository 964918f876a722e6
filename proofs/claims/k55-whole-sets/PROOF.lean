import PyProof.Rows.All
import HandS.Codes
import HandS.FStr
import HandS.Flow
import HandS.ForMost
import HandS.Head0
import HandS.Head1
import HandS.Head2
import HandS.HeadEnd
import HandS.HeadHook1
import HandS.HeadHook2
import HandS.IsInst
import HandS.OwnEq
import HandS.RaiseMore
import HandS.Set
import HandS.SetFor
import HandS.SortKw
import HandS.Star
import HandS.Strs
import HandS.Style
import HandS.Text
import HandS.TupAny
import HandS.Walk
import HandS.Wide
import HandS.WordsDict
import HandS.Zip
import KE.DataEq
import KE.DataMinMax
import KE.GoesMore
import KE.GoesZip
import KE.KOpsOwn
import KE.KStateDown
import OpenK.AllK
import PyProof.EnumMake
import PyProof.InstNe
import PyProof.Rows.TupIter
import Wide.All
import Wide.FinOn
import PySem.Challenge.RW_roundline_k55_whole_sets_that_fit
section
set_option Elab.async false
set_option linter.all false
set_option maxRecDepth 100000
set_option maxHeartbeats 0
namespace Rln
open PySem PySem.Spec PyProof.Rows L2
def top (i : Nat) : Stmt := PySem.Challenge.pw_roundline_k55_whole_sets_that_fit.main.body.getD i (.Pass ⟨0, 0, 0, 0⟩)
abbrev s_is_whole : Stmt := top 21
abbrev s_is_thing : Stmt := top 22
abbrev s_is_window : Stmt := top 23
abbrev s_is_length : Stmt := top 24
abbrev s_is_plain_deed : Stmt := top 25
abbrev s_is_deed : Stmt := top 26
abbrev s_common_divisor : Stmt := top 28
abbrev s_common_multiple : Stmt := top 29
abbrev s_is_worth : Stmt := top 35
abbrev s_is_same : Stmt := top 36
abbrev s_work_of : Stmt := top 39
abbrev s_told_of : Stmt := top 40
abbrev s_prime_divisors : Stmt := top 47
abbrev s_is_periodic : Stmt := top 48
abbrev s_least_period : Stmt := top 49
abbrev s_sums_of : Stmt := top 50
abbrev s_checked : Stmt := top 52
abbrev s_joined : Stmt := top 53
abbrev s_inner : Stmt := top 56
abbrev s_modulus_of : Stmt := top 57
abbrev s_bound_of : Stmt := top 58
abbrev s_moved : Stmt := top 59
abbrev s_story_of : Stmt := top 61
abbrev s_rows_of : Stmt := top 62
abbrev s_is_row : Stmt := top 63
abbrev s_start_of : Stmt := top 64
abbrev s_set_of : Stmt := top 66
abbrev s_fails : Stmt := top 67
abbrev s_failing_of : Stmt := top 68
abbrev s_failing : Stmt := top 69
abbrev s_check_index : Stmt := top 70
abbrev s_carrying_of : Stmt := top 71
abbrev s_is_carried : Stmt := top 72
abbrev s_carrying : Stmt := top 73
abbrev s_showing_of : Stmt := top 75
abbrev s_showing : Stmt := top 76
abbrev s_same_tellings : Stmt := top 77
abbrev s_is_told : Stmt := top 78
abbrev s_resting : Stmt := top 79
abbrev s_meeting : Stmt := top 80
abbrev s_is_apart : Stmt := top 81
abbrev s_read_number : Stmt := top 87
abbrev s_deed_text : Stmt := top 88
abbrev s_plan_text : Stmt := top 89
abbrev s_read_plain : Stmt := top 90
abbrev s_read_deed : Stmt := top 91
abbrev s_read_plan : Stmt := top 92
abbrev s_l_pot : Stmt := top 94
abbrev s_l_dip : Stmt := top 95
abbrev s_l_things : Stmt := top 96
abbrev s_l_window : Stmt := top 97
abbrev s_l_plain : Stmt := top 98
abbrev s_l_deeds : Stmt := top 99
abbrev s_l_plan : Stmt := top 100
abbrev s_l_inner : Stmt := top 101
abbrev s_l_all : Stmt := top 104
abbrev s_l_right : Stmt := top 105
abbrev s_law : Stmt := top 106
abbrev s_Form_init : Stmt := inClass (top 31) 0
abbrev s_Form_parts : Stmt := inClass (top 31) 7
abbrev s_LineWork_init : Stmt := inClass (top 38) 0
abbrev s_LineWork_spot_at : Stmt := inClass (top 38) 1
abbrev s_LineWork_thing_at : Stmt := inClass (top 38) 2
abbrev s_LineWork_shift : Stmt := inClass (top 38) 3
abbrev s_LineWork_tell : Stmt := inClass (top 38) 4
abbrev s_LineWork_look : Stmt := inClass (top 38) 5
abbrev s_LineWork_peg : Stmt := inClass (top 38) 6
abbrev s_LineWork_hang : Stmt := inClass (top 38) 7
abbrev s_LineWork_fetch : Stmt := inClass (top 38) 8
abbrev s_LineWork_walk : Stmt := inClass (top 38) 9
abbrev s_LineWork_times_to : Stmt := inClass (top 38) 10
abbrev s_Plainest_init : Stmt := inClass (top 51) 0
abbrev s_Plainest_is_in : Stmt := inClass (top 51) 1
abbrev s_Distances_init : Stmt := inClass (top 54) 0
abbrev s_Distances_eq : Stmt := inClass (top 54) 2
abbrev s_Distances_or : Stmt := inClass (top 54) 3
abbrev s_Distances_and : Stmt := inClass (top 54) 4
abbrev s_Distances_xor : Stmt := inClass (top 54) 6
abbrev s_Distances_invert : Stmt := inClass (top 54) 7
abbrev s_Story_init : Stmt := inClass (top 60) 0
abbrev s_Story_spot_at : Stmt := inClass (top 60) 1
abbrev s_Story_thing_at : Stmt := inClass (top 60) 2
abbrev s_Story_bring : Stmt := inClass (top 60) 3
abbrev s_Story_gap : Stmt := inClass (top 60) 4
abbrev s_Story_tell : Stmt := inClass (top 60) 5
abbrev s_Story_peg : Stmt := inClass (top 60) 6
abbrev s_Story_hang : Stmt := inClass (top 60) 7
abbrev s_Story_fetch : Stmt := inClass (top 60) 8
abbrev s_Story_walk : Stmt := inClass (top 60) 9
abbrev s_Story_way : Stmt := inClass (top 60) 10
abbrev s_Plan_init : Stmt := inClass (top 85) 0
abbrev s_Plan_len : Stmt := inClass (top 85) 2
abbrev s_Plan_add : Stmt := inClass (top 85) 5
abbrev s_Plan_has : Stmt := inClass (top 85) 6
abbrev s_Plan_deeds : Stmt := inClass (top 85) 7
abbrev s_Plan_without : Stmt := inClass (top 85) 9
abbrev s_Plan_exchanged : Stmt := inClass (top 85) 10
def fn0 : List He.DefD := [⟨("is_whole", none), "is_whole", "is_whole", defArgs s_is_whole, defBody s_is_whole, defScope s_is_whole, [], []⟩,
  ⟨("is_thing", none), "is_thing", "is_thing", defArgs s_is_thing, defBody s_is_thing, defScope s_is_thing, [], []⟩,
  ⟨("is_window", none), "is_window", "is_window", defArgs s_is_window, defBody s_is_window, defScope s_is_window, [], []⟩,
  ⟨("is_length", none), "is_length", "is_length", defArgs s_is_length, defBody s_is_length, defScope s_is_length, [], []⟩,
  ⟨("is_plain_deed", none), "is_plain_deed", "is_plain_deed", defArgs s_is_plain_deed, defBody s_is_plain_deed, defScope s_is_plain_deed, [], []⟩,
  ⟨("is_deed", none), "is_deed", "is_deed", defArgs s_is_deed, defBody s_is_deed, defScope s_is_deed, [], []⟩,
  ⟨("common_divisor", none), "common_divisor", "common_divisor", defArgs s_common_divisor, defBody s_common_divisor, defScope s_common_divisor, [], []⟩,
  ⟨("common_multiple", none), "common_multiple", "common_multiple", defArgs s_common_multiple, defBody s_common_multiple, defScope s_common_multiple, [], []⟩,
  ⟨("is_worth", none), "is_worth", "is_worth", defArgs s_is_worth, defBody s_is_worth, defScope s_is_worth, [], []⟩,
  ⟨("is_same", none), "is_same", "is_same", defArgs s_is_same, defBody s_is_same, defScope s_is_same, [], []⟩,
  ⟨("work_of", none), "work_of", "work_of", defArgs s_work_of, defBody s_work_of, defScope s_work_of, [], []⟩,
  ⟨("told_of", none), "told_of", "told_of", defArgs s_told_of, defBody s_told_of, defScope s_told_of, [], []⟩,
  ⟨("prime_divisors", none), "prime_divisors", "prime_divisors", defArgs s_prime_divisors, defBody s_prime_divisors, defScope s_prime_divisors, [], []⟩,
  ⟨("is_periodic", none), "is_periodic", "is_periodic", defArgs s_is_periodic, defBody s_is_periodic, defScope s_is_periodic, [], []⟩,
  ⟨("least_period", none), "least_period", "least_period", defArgs s_least_period, defBody s_least_period, defScope s_least_period, [], []⟩,
  ⟨("sums_of", none), "sums_of", "sums_of", defArgs s_sums_of, defBody s_sums_of, defScope s_sums_of, [], []⟩,
  ⟨("checked", none), "checked", "checked", defArgs s_checked, defBody s_checked, defScope s_checked, [], []⟩,
  ⟨("joined", none), "joined", "joined", defArgs s_joined, defBody s_joined, defScope s_joined, [], []⟩,
  ⟨("inner", none), "inner", "inner", defArgs s_inner, defBody s_inner, defScope s_inner, [], []⟩,
  ⟨("modulus_of", none), "modulus_of", "modulus_of", defArgs s_modulus_of, defBody s_modulus_of, defScope s_modulus_of, [], []⟩,
  ⟨("bound_of", none), "bound_of", "bound_of", defArgs s_bound_of, defBody s_bound_of, defScope s_bound_of, [], []⟩,
  ⟨("moved", none), "moved", "moved", defArgs s_moved, defBody s_moved, defScope s_moved, [], []⟩,
  ⟨("story_of", none), "story_of", "story_of", defArgs s_story_of, defBody s_story_of, defScope s_story_of, [], []⟩,
  ⟨("rows_of", none), "rows_of", "rows_of", defArgs s_rows_of, defBody s_rows_of, defScope s_rows_of, [], []⟩,
  ⟨("is_row", none), "is_row", "is_row", defArgs s_is_row, defBody s_is_row, defScope s_is_row, [], []⟩,
  ⟨("start_of", none), "start_of", "start_of", defArgs s_start_of, defBody s_start_of, defScope s_start_of, [], []⟩,
  ⟨("set_of", none), "set_of", "set_of", defArgs s_set_of, defBody s_set_of, defScope s_set_of, [], []⟩,
  ⟨("fails", none), "fails", "fails", defArgs s_fails, defBody s_fails, defScope s_fails, [], []⟩,
  ⟨("failing_of", none), "failing_of", "failing_of", defArgs s_failing_of, defBody s_failing_of, defScope s_failing_of, [], []⟩,
  ⟨("failing", none), "failing", "failing", defArgs s_failing, defBody s_failing, defScope s_failing, [], []⟩]
def fn1 : List He.DefD := [⟨("check_index", none), "check_index", "check_index", defArgs s_check_index, defBody s_check_index, defScope s_check_index, [], []⟩,
  ⟨("carrying_of", none), "carrying_of", "carrying_of", defArgs s_carrying_of, defBody s_carrying_of, defScope s_carrying_of, [], []⟩,
  ⟨("is_carried", none), "is_carried", "is_carried", defArgs s_is_carried, defBody s_is_carried, defScope s_is_carried, [], []⟩,
  ⟨("carrying", none), "carrying", "carrying", defArgs s_carrying, defBody s_carrying, defScope s_carrying, [], []⟩,
  ⟨("showing_of", none), "showing_of", "showing_of", defArgs s_showing_of, defBody s_showing_of, defScope s_showing_of, [], []⟩,
  ⟨("showing", none), "showing", "showing", defArgs s_showing, defBody s_showing, defScope s_showing, [], []⟩,
  ⟨("same_tellings", none), "same_tellings", "same_tellings", defArgs s_same_tellings, defBody s_same_tellings, defScope s_same_tellings, [], []⟩,
  ⟨("is_told", none), "is_told", "is_told", defArgs s_is_told, defBody s_is_told, defScope s_is_told, [], []⟩,
  ⟨("resting", none), "resting", "resting", defArgs s_resting, defBody s_resting, defScope s_resting, [], []⟩,
  ⟨("meeting", none), "meeting", "meeting", defArgs s_meeting, defBody s_meeting, defScope s_meeting, [], []⟩,
  ⟨("is_apart", none), "is_apart", "is_apart", defArgs s_is_apart, defBody s_is_apart, defScope s_is_apart, [], []⟩,
  ⟨("read_number", none), "read_number", "read_number", defArgs s_read_number, defBody s_read_number, defScope s_read_number, [], []⟩,
  ⟨("deed_text", none), "deed_text", "deed_text", defArgs s_deed_text, defBody s_deed_text, defScope s_deed_text, [], []⟩,
  ⟨("plan_text", none), "plan_text", "plan_text", defArgs s_plan_text, defBody s_plan_text, defScope s_plan_text, [], []⟩,
  ⟨("read_plain", none), "read_plain", "read_plain", defArgs s_read_plain, defBody s_read_plain, defScope s_read_plain, [], []⟩,
  ⟨("read_deed", none), "read_deed", "read_deed", defArgs s_read_deed, defBody s_read_deed, defScope s_read_deed, [], []⟩,
  ⟨("read_plan", none), "read_plan", "read_plan", defArgs s_read_plan, defBody s_read_plan, defScope s_read_plan, [], []⟩,
  ⟨("_law_pot", none), "_law_pot", "_law_pot", defArgs s_l_pot, defBody s_l_pot, defScope s_l_pot, [], []⟩,
  ⟨("_law_dip", none), "_law_dip", "_law_dip", defArgs s_l_dip, defBody s_l_dip, defScope s_l_dip, [], []⟩,
  ⟨("_law_things", none), "_law_things", "_law_things", defArgs s_l_things, defBody s_l_things, defScope s_l_things, [], []⟩,
  ⟨("_law_window", none), "_law_window", "_law_window", defArgs s_l_window, defBody s_l_window, defScope s_l_window, [], []⟩,
  ⟨("_law_plain", none), "_law_plain", "_law_plain", defArgs s_l_plain, defBody s_l_plain, defScope s_l_plain, [], []⟩,
  ⟨("_law_deeds", none), "_law_deeds", "_law_deeds", defArgs s_l_deeds, defBody s_l_deeds, defScope s_l_deeds, [], []⟩,
  ⟨("_law_plan", none), "_law_plan", "_law_plan", defArgs s_l_plan, defBody s_l_plan, defScope s_l_plan, [], []⟩,
  ⟨("_law_inner", none), "_law_inner", "_law_inner", defArgs s_l_inner, defBody s_l_inner, defScope s_l_inner, [], []⟩,
  ⟨("_law_all", none), "_law_all", "_law_all", defArgs s_l_all, defBody s_l_all, defScope s_l_all, [], []⟩,
  ⟨("_law_right", none), "_law_right", "_law_right", defArgs s_l_right, defBody s_l_right, defScope s_l_right, [], []⟩,
  ⟨("law", none), "law", "law", defArgs s_law, defBody s_law, defScope s_law, [], []⟩,
  ⟨("Form", some "__init__"), "__init__", "Form.__init__", defArgs s_Form_init, defBody s_Form_init, defScope s_Form_init, [.int 0, .int 1], []⟩,
  ⟨("Form", some "parts"), "parts", "Form.parts", defArgs s_Form_parts, defBody s_Form_parts, defScope s_Form_parts, [], []⟩]
def fn2 : List He.DefD := [⟨("LineWork", some "__init__"), "__init__", "LineWork.__init__", defArgs s_LineWork_init, defBody s_LineWork_init, defScope s_LineWork_init, [], []⟩,
  ⟨("LineWork", some "spot_at"), "spot_at", "LineWork.spot_at", defArgs s_LineWork_spot_at, defBody s_LineWork_spot_at, defScope s_LineWork_spot_at, [], []⟩,
  ⟨("LineWork", some "thing_at"), "thing_at", "LineWork.thing_at", defArgs s_LineWork_thing_at, defBody s_LineWork_thing_at, defScope s_LineWork_thing_at, [], []⟩,
  ⟨("LineWork", some "shift"), "shift", "LineWork.shift", defArgs s_LineWork_shift, defBody s_LineWork_shift, defScope s_LineWork_shift, [], []⟩,
  ⟨("LineWork", some "tell"), "tell", "LineWork.tell", defArgs s_LineWork_tell, defBody s_LineWork_tell, defScope s_LineWork_tell, [], []⟩,
  ⟨("LineWork", some "look"), "look", "LineWork.look", defArgs s_LineWork_look, defBody s_LineWork_look, defScope s_LineWork_look, [], []⟩,
  ⟨("LineWork", some "peg"), "peg", "LineWork.peg", defArgs s_LineWork_peg, defBody s_LineWork_peg, defScope s_LineWork_peg, [], []⟩,
  ⟨("LineWork", some "hang"), "hang", "LineWork.hang", defArgs s_LineWork_hang, defBody s_LineWork_hang, defScope s_LineWork_hang, [], []⟩,
  ⟨("LineWork", some "fetch"), "fetch", "LineWork.fetch", defArgs s_LineWork_fetch, defBody s_LineWork_fetch, defScope s_LineWork_fetch, [], []⟩,
  ⟨("LineWork", some "walk"), "walk", "LineWork.walk", defArgs s_LineWork_walk, defBody s_LineWork_walk, defScope s_LineWork_walk, [], []⟩,
  ⟨("LineWork", some "times_to"), "times_to", "LineWork.times_to", defArgs s_LineWork_times_to, defBody s_LineWork_times_to, defScope s_LineWork_times_to, [], []⟩,
  ⟨("Plainest", some "__init__"), "__init__", "Plainest.__init__", defArgs s_Plainest_init, defBody s_Plainest_init, defScope s_Plainest_init, [], []⟩,
  ⟨("Plainest", some "is_in"), "is_in", "Plainest.is_in", defArgs s_Plainest_is_in, defBody s_Plainest_is_in, defScope s_Plainest_is_in, [], []⟩,
  ⟨("Distances", some "__init__"), "__init__", "Distances.__init__", defArgs s_Distances_init, defBody s_Distances_init, defScope s_Distances_init, [.int 1, .adr (He.dflAt ("Distances", some "__init__") 1), .adr (He.dflAt ("Distances", some "__init__") 2)], []⟩,
  ⟨("Distances", some "__eq__"), "__eq__", "Distances.__eq__", defArgs s_Distances_eq, defBody s_Distances_eq, defScope s_Distances_eq, [], []⟩,
  ⟨("Distances", some "__or__"), "__or__", "Distances.__or__", defArgs s_Distances_or, defBody s_Distances_or, defScope s_Distances_or, [], []⟩,
  ⟨("Distances", some "__and__"), "__and__", "Distances.__and__", defArgs s_Distances_and, defBody s_Distances_and, defScope s_Distances_and, [], []⟩,
  ⟨("Distances", some "__xor__"), "__xor__", "Distances.__xor__", defArgs s_Distances_xor, defBody s_Distances_xor, defScope s_Distances_xor, [], []⟩,
  ⟨("Distances", some "__invert__"), "__invert__", "Distances.__invert__", defArgs s_Distances_invert, defBody s_Distances_invert, defScope s_Distances_invert, [], []⟩,
  ⟨("Story", some "__init__"), "__init__", "Story.__init__", defArgs s_Story_init, defBody s_Story_init, defScope s_Story_init, [], []⟩,
  ⟨("Story", some "spot_at"), "spot_at", "Story.spot_at", defArgs s_Story_spot_at, defBody s_Story_spot_at, defScope s_Story_spot_at, [], []⟩,
  ⟨("Story", some "thing_at"), "thing_at", "Story.thing_at", defArgs s_Story_thing_at, defBody s_Story_thing_at, defScope s_Story_thing_at, [], []⟩,
  ⟨("Story", some "bring"), "bring", "Story.bring", defArgs s_Story_bring, defBody s_Story_bring, defScope s_Story_bring, [], []⟩,
  ⟨("Story", some "gap"), "gap", "Story.gap", defArgs s_Story_gap, defBody s_Story_gap, defScope s_Story_gap, [], []⟩,
  ⟨("Story", some "tell"), "tell", "Story.tell", defArgs s_Story_tell, defBody s_Story_tell, defScope s_Story_tell, [], []⟩,
  ⟨("Story", some "peg"), "peg", "Story.peg", defArgs s_Story_peg, defBody s_Story_peg, defScope s_Story_peg, [], []⟩,
  ⟨("Story", some "hang"), "hang", "Story.hang", defArgs s_Story_hang, defBody s_Story_hang, defScope s_Story_hang, [], []⟩,
  ⟨("Story", some "fetch"), "fetch", "Story.fetch", defArgs s_Story_fetch, defBody s_Story_fetch, defScope s_Story_fetch, [], []⟩,
  ⟨("Story", some "walk"), "walk", "Story.walk", defArgs s_Story_walk, defBody s_Story_walk, defScope s_Story_walk, [], []⟩,
  ⟨("Story", some "way"), "way", "Story.way", defArgs s_Story_way, defBody s_Story_way, defScope s_Story_way, [], []⟩]
def fn3 : List He.DefD := [⟨("Plan", some "__init__"), "__init__", "Plan.__init__", defArgs s_Plan_init, defBody s_Plan_init, defScope s_Plan_init, [.adr (He.dflAt ("Plan", some "__init__") 0)], []⟩,
  ⟨("Plan", some "__len__"), "__len__", "Plan.__len__", defArgs s_Plan_len, defBody s_Plan_len, defScope s_Plan_len, [], []⟩,
  ⟨("Plan", some "__add__"), "__add__", "Plan.__add__", defArgs s_Plan_add, defBody s_Plan_add, defScope s_Plan_add, [], []⟩,
  ⟨("Plan", some "has"), "has", "Plan.has", defArgs s_Plan_has, defBody s_Plan_has, defScope s_Plan_has, [], []⟩,
  ⟨("Plan", some "deeds"), "deeds", "Plan.deeds", defArgs s_Plan_deeds, defBody s_Plan_deeds, defScope s_Plan_deeds, [], []⟩,
  ⟨("Plan", some "without"), "without", "Plan.without", defArgs s_Plan_without, defBody s_Plan_without, defScope s_Plan_without, [], []⟩,
  ⟨("Plan", some "exchanged"), "exchanged", "Plan.exchanged", defArgs s_Plan_exchanged, defBody s_Plan_exchanged, defScope s_Plan_exchanged, [], []⟩]
def fn : List He.DefD := fn0 ++ fn1 ++ fn2 ++ fn3
def fa0 : List He.Fa := [.glo "is_whole",
  .glo "is_thing",
  .glo "is_window",
  .glo "is_length",
  .glo "is_plain_deed",
  .glo "is_deed",
  .glo "common_divisor",
  .glo "common_multiple",
  .glo "is_worth",
  .glo "is_same",
  .glo "work_of",
  .glo "told_of",
  .glo "prime_divisors",
  .glo "is_periodic",
  .glo "least_period",
  .glo "sums_of",
  .glo "checked",
  .glo "joined",
  .glo "inner",
  .glo "modulus_of",
  .glo "bound_of",
  .glo "moved",
  .glo "story_of",
  .glo "rows_of",
  .glo "is_row",
  .glo "start_of",
  .glo "set_of",
  .glo "fails",
  .glo "failing_of",
  .glo "failing"]
def fa1 : List He.Fa := [.glo "check_index",
  .glo "carrying_of",
  .glo "is_carried",
  .glo "carrying",
  .glo "showing_of",
  .glo "showing",
  .glo "same_tellings",
  .glo "is_told",
  .glo "resting",
  .glo "meeting",
  .glo "is_apart",
  .glo "read_number",
  .glo "deed_text",
  .glo "plan_text",
  .glo "read_plain",
  .glo "read_deed",
  .glo "read_plan",
  .glo "_law_pot",
  .glo "_law_dip",
  .glo "_law_things",
  .glo "_law_window",
  .glo "_law_plain",
  .glo "_law_deeds",
  .glo "_law_plan",
  .glo "_law_inner",
  .glo "_law_all",
  .glo "_law_right",
  .glo "law",
  .glo "Form",
  .glo "LineWork"]
def fa2 : List He.Fa := [.glo "Plainest",
  .glo "Distances",
  .glo "Story",
  .glo "Plan",
  .free "isinstance",
  .free "int",
  .free "bool",
  .free "str",
  .free "tuple",
  .free "list",
  .free "len",
  .free "all",
  .free "any",
  .free "abs",
  .free "range",
  .free "min",
  .free "max",
  .free "enumerate",
  .free "zip",
  .free "sorted",
  .free "set",
  .int "LONGEST_THING" 8,
  .int "GREATEST_PULL" 40,
  .int "GREATEST_STEP" 6,
  .int "MOST_MODULUS" 720,
  .int "MOST_DEEDS" 12,
  .str "LETTERS" "abcdefghijklmnopqrstuvwxyz",
  .cls "Form",
  .noat "Form" "row",
  .meth "Form" "parts"]
def fa3 : List He.Fa := [.mkr "Form",
  .cls "LineWork",
  .noat "LineWork" "half",
  .noat "LineWork" "stand",
  .noat "LineWork" "hung",
  .noat "LineWork" "lengths",
  .meth "LineWork" "spot_at",
  .meth "LineWork" "thing_at",
  .meth "LineWork" "shift",
  .meth "LineWork" "tell",
  .meth "LineWork" "look",
  .meth "LineWork" "peg",
  .meth "LineWork" "hang",
  .meth "LineWork" "fetch",
  .meth "LineWork" "walk",
  .meth "LineWork" "times_to",
  .mkr "LineWork",
  .cls "Plainest",
  .noat "Plainest" "period",
  .noat "Plainest" "flags",
  .noat "Plainest" "flipped",
  .noat "Plainest" "below",
  .meth "Plainest" "is_in",
  .mkr "Plainest",
  .cls "Distances",
  .noat "Distances" "plain",
  .meth "Distances" "__eq__",
  .meth "Distances" "__or__",
  .meth "Distances" "__and__",
  .meth "Distances" "__xor__"]
def fa4 : List He.Fa := [.meth "Distances" "__invert__",
  .mkr "Distances",
  .cls "Story",
  .noat "Story" "remainder",
  .noat "Story" "stand",
  .noat "Story" "hung",
  .meth "Story" "spot_at",
  .meth "Story" "thing_at",
  .meth "Story" "bring",
  .meth "Story" "gap",
  .meth "Story" "tell",
  .meth "Story" "peg",
  .meth "Story" "hang",
  .meth "Story" "fetch",
  .meth "Story" "walk",
  .meth "Story" "way",
  .mkr "Story",
  .cls "Plan",
  .noat "Plan" "kept",
  .meth "Plan" "__len__",
  .meth "Plan" "__add__",
  .meth "Plan" "has",
  .meth "Plan" "deeds",
  .meth "Plan" "without",
  .meth "Plan" "exchanged",
  .mkr "Plan",
  .glo "UNION",
  .glo "COMMON",
  .glo "IN_ONE",
  .glo "WINDOWS"]
def fa : List He.Fa := fa0 ++ fa1 ++ fa2 ++ fa3 ++ fa4
def names0 : List PySem.Str := [("_wall" : PySem.Str),
  ("LineError" : PySem.Str),
  ("NoForm" : PySem.Str),
  ("NoDistance" : PySem.Str),
  ("NoModulus" : PySem.Str),
  ("NoClasses" : PySem.Str),
  ("NoChanged" : PySem.Str),
  ("NoLimit" : PySem.Str),
  ("NoTold" : PySem.Str),
  ("NoWindow" : PySem.Str),
  ("NoThing" : PySem.Str),
  ("NotWhole" : PySem.Str),
  ("NoDeed" : PySem.Str),
  ("NoText" : PySem.Str),
  ("LETTERS" : PySem.Str),
  ("WINDOWS" : PySem.Str),
  ("LONGEST_THING" : PySem.Str),
  ("GREATEST_PULL" : PySem.Str),
  ("GREATEST_STEP" : PySem.Str),
  ("is_whole" : PySem.Str),
  ("is_thing" : PySem.Str),
  ("is_window" : PySem.Str),
  ("is_length" : PySem.Str),
  ("is_plain_deed" : PySem.Str),
  ("is_deed" : PySem.Str),
  ("common_divisor" : PySem.Str),
  ("common_multiple" : PySem.Str),
  ("Form" : PySem.Str),
  ("form_of" : PySem.Str),
  ("parts_of" : PySem.Str)]
def names1 : List PySem.Str := [("sign_of" : PySem.Str),
  ("is_worth" : PySem.Str),
  ("is_same" : PySem.Str),
  ("LineWork" : PySem.Str),
  ("work_of" : PySem.Str),
  ("told_of" : PySem.Str),
  ("MOST_MODULUS" : PySem.Str),
  ("UNION" : PySem.Str),
  ("COMMON" : PySem.Str),
  ("WITHOUT" : PySem.Str),
  ("IN_ONE" : PySem.Str),
  ("prime_divisors" : PySem.Str),
  ("is_periodic" : PySem.Str),
  ("least_period" : PySem.Str),
  ("sums_of" : PySem.Str),
  ("Plainest" : PySem.Str),
  ("checked" : PySem.Str),
  ("joined" : PySem.Str),
  ("Distances" : PySem.Str),
  ("inner" : PySem.Str),
  ("modulus_of" : PySem.Str),
  ("bound_of" : PySem.Str),
  ("moved" : PySem.Str),
  ("Story" : PySem.Str),
  ("story_of" : PySem.Str),
  ("rows_of" : PySem.Str),
  ("is_row" : PySem.Str),
  ("start_of" : PySem.Str),
  ("set_of" : PySem.Str),
  ("fails" : PySem.Str)]
def names2 : List PySem.Str := [("failing_of" : PySem.Str),
  ("failing" : PySem.Str),
  ("check_index" : PySem.Str),
  ("carrying_of" : PySem.Str),
  ("is_carried" : PySem.Str),
  ("carrying" : PySem.Str),
  ("meets" : PySem.Str),
  ("showing_of" : PySem.Str),
  ("showing" : PySem.Str),
  ("same_tellings" : PySem.Str),
  ("is_told" : PySem.Str),
  ("resting" : PySem.Str),
  ("meeting" : PySem.Str),
  ("is_apart" : PySem.Str),
  ("MOST_DEEDS" : PySem.Str),
  ("things_of" : PySem.Str),
  ("Plan" : PySem.Str),
  ("read_number" : PySem.Str),
  ("deed_text" : PySem.Str),
  ("plan_text" : PySem.Str),
  ("read_plain" : PySem.Str),
  ("read_deed" : PySem.Str),
  ("read_plan" : PySem.Str),
  ("_law_pot" : PySem.Str),
  ("_law_dip" : PySem.Str),
  ("_law_things" : PySem.Str),
  ("_law_window" : PySem.Str),
  ("_law_plain" : PySem.Str),
  ("_law_deeds" : PySem.Str),
  ("_law_plan" : PySem.Str)]
def names3 : List PySem.Str := [("_law_inner" : PySem.Str),
  ("_law_reach" : PySem.Str),
  ("_law_modulus" : PySem.Str),
  ("_law_all" : PySem.Str),
  ("_law_right" : PySem.Str)]
def names : List PySem.Str := names0 ++ names1 ++ names2 ++ names3

/-- more facts: the tables of the top, the empty default tuples -/
def tupAt (K : PySem.W.Frag) (a : Addr) (vs : List V) : Bool := match K.lookup a with
  | some ⟨.type c, _, .seq its _, _⟩ => decide (c = "tuple") && (decide (its.size ≤ sizeLine) && He.relAll vs its.toList)
  | _ => false
def insB (K : PySem.W.Frag) (x : Str) : Bool := decide (PySem.W.findIn K (.ref (He.ga K x)) "__class__" = some (some (.builtin "object.__class__"))) && (decide (PySem.W.mroIn K (He.ga K x) (.type "object") = some true) && decide (PySem.W.kitOne K (.ref (He.ga K x)) (.ref (He.ga K x)) = some true))
def kitB' (K : PySem.W.Frag) (t : String) (x : Str) : Bool := decide (PySem.W.kitOne K (.type t) (.ref (He.ga K x)) = some false)
def exL (K : PySem.W.Frag) : List Bool := [
  He.tupB K "UNION" [.bl false, .bl true, .bl true, .bl true], He.tupB K "COMMON" [.bl false, .bl false, .bl false, .bl true], He.tupB K "IN_ONE" [.bl false, .bl true, .bl true, .bl false],
  He.tupB K "WINDOWS" [.str "near", .str "far"], tupAt K (He.dflAt ("Distances", some "__init__") 1 K) [], tupAt K (He.dflAt ("Distances", some "__init__") 2 K) [], tupAt K (He.dflAt ("Plan", some "__init__") 0 K) [],
  insB K "Form", insB K "Plainest", insB K "Distances", insB K "Plan",
  kitB' K "NoneType" "Form", kitB' K "bool" "Form", kitB' K "str" "Form", kitB' K "int" "Form", kitB' K "int" "Plainest",
  decide (PySem.W.specialIn K (.builtin "object.__class__") "__get__" = some (some (.builtin "getset_descriptor.__get__"))), decide (PySem.W.takesIn K (.builtin "object.__class__") = some true),
  decide (PySem.W.findIn K (.ref (He.ga K "Distances")) "__ne__" = some (some (.builtin "object.__ne__"))), PySem.W.selfFirst K (He.ga K "Distances"), PySem.W.selfFirst K (He.ga K "Plan")]
def ex (K : PySem.W.Frag) : Bool := (exL K).all id
abbrev Al : Type := He.AlD × Bool
def obsX (K : PySem.W.Frag) : Al := (He.obsD fa fn K, ex K)
def asL0 : List Addr := [3, 328, 452, 545, 694, 809, 1023, 327, 451, 544, 693, 808, 1022, 200, 469, 470, 472, 262, 567, 568, 569, 946, 947, 21, 20, 207, 206, 212, 211, 219]
def asL1 : List Addr := [218, 226, 225, 233, 232, 240, 239, 247, 246, 254, 253, 339, 338, 346, 345, 353, 352, 360, 359, 367, 366, 463, 462, 468, 467, 479, 478, 486, 485, 493]
def asL2 : List Addr := [492, 500, 499, 554, 553, 559, 558, 705, 704, 710, 709, 715, 714, 722, 721, 818, 817, 823, 822, 828, 827, 835, 834, 840, 839, 847, 846, 852, 851, 859]
def asL3 : List Addr := [858, 866, 865, 871, 870, 876, 875, 883, 882, 890, 889, 895, 894, 902, 901, 907, 906, 912, 911, 919, 918, 924, 923, 931, 930, 938, 937, 1034, 1033, 1039]
def asL4 : List Addr := [1038, 1044, 1043, 1051, 1050, 1058, 1057, 1063, 1062, 1070, 1069, 1077, 1076, 1084, 1083, 1091, 1090, 1098, 1097, 1105, 1104, 1110, 1109, 1117, 1116, 1122, 1121, 1127, 1126, 1134]
def asL5 : List Addr := [1133, 1139, 1138, 1146, 1145, 269, 268, 276, 275, 283, 282, 290, 289, 297, 296, 304, 303, 311, 310, 318, 317, 325, 324, 381, 380, 388, 387, 395, 394, 402]
def asL6 : List Addr := [401, 409, 408, 416, 415, 423, 422, 430, 429, 437, 436, 442, 441, 449, 448, 514, 513, 521, 520, 528, 527, 535, 534, 542, 541, 576, 575, 583, 582, 590]
def asL7 : List Addr := [589, 597, 596, 604, 603, 611, 610, 618, 617, 623, 622, 630, 629, 635, 634, 642, 641, 649, 648, 656, 655, 663, 662, 670, 669, 677, 676, 684, 683, 691]
def asL8 : List Addr := [690, 736, 735, 743, 742, 750, 749, 757, 756, 764, 763, 771, 770, 778, 777, 785, 784, 792, 791, 799, 798, 806, 805, 954, 953, 961, 960, 968, 967, 975]
def asL9 : List Addr := [974, 982, 981, 989, 988, 996, 995, 1003, 1002, 1008, 1007, 1013, 1012, 1020, 1019]
/-- where the law's defs, their codes, the classes, the tables stand behind the top -/
def asL : List Addr := asL0 ++ asL1 ++ asL2 ++ asL3 ++ asL4 ++ asL5 ++ asL6 ++ asL7 ++ asL8 ++ asL9
def obsXG (g : Addr → Option Obj) : Al := obsX (He.frG g asL)
structure Says (K : PySem.W.Frag) : Prop where
  d : He.SaysD fa fn K
  x : ex K = true
def hookX : PySem.W.Hook where
  α := Al
  obs := fun s => obsXG s.heap.get?
  val := fun _ => (He.valD fn, true)
  says := fun _ h => ∃ K : PySem.W.Frag, K.In h ∧ Says K
  of := fun _ _ e => ⟨_, He.frG_in, ⟨congrArg (fun z : Al => z.1) e, congrArg (fun z : Al => z.2) e⟩⟩
  keeps := fun _ _ _ ⟨K, hK, c⟩ k => ⟨K, PySem.W.Frag.In.keeps hK k, c⟩
abbrev R : PySem.W.OpenRow := PySem.W.OpenLaw.row PySem.Challenge.rw_roundline_k55_whole_sets_that_fit
end Rln
end
section
set_option Elab.async false
set_option linter.all false
set_option maxRecDepth 100000
set_option maxHeartbeats 0
namespace Rln
open PySem PySem.Spec PyProof.Rows L2
/-! ### forcing: the same value, its parts in normal form -/
section
universe u
variable {α : Type u}
def frN (n : Nat) (k : Nat → α) : α := match n with
  | 0 => k 0
  | m + 1 => k (m + 1)
theorem frN_eq (n : Nat) (k : Nat → α) : frN n k = k n := by cases n <;> rfl
def frL {β : Type} (fr : β → (β → α) → α) : List β → (List β → α) → α
  | [], k => k []
  | x :: r, k => fr x fun x => frL fr r fun r => k (x :: r)
theorem frL_eq {β : Type} {fr : β → (β → α) → α} (h : ∀ x k, fr x k = k x) : ∀ (l : List β) (k : List β → α), frL fr l k = k l
  | [], _ => rfl
  | x :: r, k => by
    show (fr x fun x => frL fr r fun r => k (x :: r)) = k (x :: r)
    rw [h, frL_eq h]
def frA {β : Type} (fr : β → (β → α) → α) (a : Array β) (k : Array β → α) : α := match a with
  | ⟨l⟩ => frL fr l fun l => k ⟨l⟩
theorem frA_eq {β : Type} {fr : β → (β → α) → α} (h : ∀ x k, fr x k = k x) (a : Array β) (k : Array β → α) : frA fr a k = k a := by
  obtain ⟨l⟩ := a
  exact frL_eq h l _
def frS (x : Str) (k : Str → α) : α := match x with
  | ⟨a⟩ => frA frN a fun a => k ⟨a⟩
theorem frS_eq (x : Str) (k : Str → α) : frS x k = k x := by
  obtain ⟨a⟩ := x
  simp only [frS, frA_eq frN_eq]
def frV (v : Value) (k : Value → α) : α := match v with
  | .ref a => frN a fun a => k (.ref a)
  | .str x t => frS x fun x => k (.str x t)
  | .none => k .none
  | .type n => k (.type n)
  | .builtin n => k (.builtin n)
  | .bool true => k (.bool true)
  | .bool false => k (.bool false)
  | v => k v
theorem frV_eq (v : Value) (k : Value → α) : frV v k = k v := by
  cases v with
  | ref a => simp only [frV, frN_eq]
  | str x t => simp only [frV, frS_eq]
  | bool b => cases b <;> rfl
  | _ => rfl
def frE (e : DictEntry) (k : DictEntry → α) : α := match e with
  | ⟨h, x, v⟩ => frV x fun x => frV v fun v => k ⟨h, x, v⟩
theorem frE_eq (e : DictEntry) (k : DictEntry → α) : frE e k = k e := by
  obtain ⟨h, x, v⟩ := e
  show (frV x fun x => frV v fun v => k ⟨h, x, v⟩) = _
  rw [frV_eq, frV_eq]
def frF (f : FuncData) (k : FuncData → α) : α := match f with
  | ⟨n1, n2, n3, n4, n5, n6, n7, n8, n9, n10, n11, n12, n13, n14, n15⟩ => frS n1 fun n1 => frS n2 fun n2 => frN n6 fun n6 => frV n8 fun n8 => frV n13 fun n13 => frN n15 fun n15 => k ⟨n1, n2, n3, n4, n5, n6, n7, n8, n9, n10, n11, n12, n13, n14, n15⟩
theorem frF_eq (f : FuncData) (k : FuncData → α) : frF f k = k f := by
  obtain ⟨n1, n2, n3, n4, n5, n6, n7, n8, n9, n10, n11, n12, n13, n14, n15⟩ := f
  simp only [frF, frS_eq, frN_eq, frV_eq]
def frC (c : ClassData) (k : ClassData → α) : α := match c with
  | ⟨n1, n2, n3, n4, n5, n6, n7, n8, n9, n10, n11⟩ => frL frV n3 fun n3 => frN n4 fun n4 => k ⟨n1, n2, n3, n4, n5, n6, n7, n8, n9, n10, n11⟩
theorem frC_eq (c : ClassData) (k : ClassData → α) : frC c k = k c := by
  obtain ⟨n1, n2, n3, n4, n5, n6, n7, n8, n9, n10, n11⟩ := c
  simp only [frC, frL_eq frV_eq, frN_eq]
def frD (d : Data) (k : Data → α) : α := match d with
  | .seq its n => frA frV its fun its => k (.seq its n)
  | .dict es n => frA frE es fun es => k (.dict es n)
  | .func f => frF f fun f => k (.func f)
  | .cls c => frC c fun c => k (.cls c)
  | .fields vs => frA frV vs fun vs => k (.fields vs)
  | d => k d
theorem frD_eq (d : Data) (k : Data → α) : frD d k = k d := by
  cases d with
  | seq its n => simp only [frD, frA_eq frV_eq]
  | dict es n => simp only [frD, frA_eq frE_eq]
  | func f => simp only [frD, frF_eq]
  | cls c => simp only [frD, frC_eq]
  | fields vs => simp only [frD, frA_eq frV_eq]
  | _ => rfl
def frO (o : Obj) (k : Obj → α) : α := match o with
  | ⟨c, d, dt, sl⟩ => frV c fun c => frD dt fun dt => k ⟨c, d, dt, sl⟩
theorem frO_eq (o : Obj) (k : Obj → α) : frO o k = k o := by
  obtain ⟨c, d, dt, sl⟩ := o
  show (frV c fun c => frD dt fun dt => k ⟨c, d, dt, sl⟩) = _
  rw [frV_eq, frD_eq]
/-- the tree's shape -/
def frT : PySem.W.BT → (PySem.W.BT → α) → α
  | .nil, k => k .nil
  | .node v l r, k => frT l fun l => frT r fun r => k (.node v l r)
theorem frT_eq : ∀ (t : PySem.W.BT) (k : PySem.W.BT → α), frT t k = k t
  | .nil, _ => rfl
  | .node v l r, k => by
    show (frT l fun l => frT r fun r => k (.node v l r)) = _
    rw [frT_eq l, frT_eq r]
/-- the part of the heap at some addresses, in normal form -/
def frK (g : Addr → Option Obj) : List Addr → (PySem.W.Frag → α) → α
  | [], k => k []
  | a :: r, k => match g a with
    | some o => frO o fun o => frK g r fun K => k ((a, o) :: K)
    | none => frK g r k
theorem frK_eq (g : Addr → Option Obj) : ∀ (as : List Addr) (k : PySem.W.Frag → α), frK g as k = k (He.frG g as)
  | [], _ => rfl
  | a :: r, k => by
    unfold frK He.frG
    rw [List.filterMap_cons]
    cases h : g a with
    | none => exact frK_eq g r k
    | some o =>
      show (frO o fun o => frK g r fun K => k ((a, o) :: K)) = _
      rw [frO_eq, frK_eq]
      rfl
end
/-- the state with its tree forced -/
def frSt {α : Type} (s : PySem.W.SharedT) (k : PySem.W.SharedT → α) : α := match s with
  | ⟨T, n, life, gens, drawn, toks, os⟩ => frT T fun T => frN n fun n => k ⟨T, n, life, gens, drawn, toks, os⟩
theorem frSt_eq {α : Type} (s : PySem.W.SharedT) (k : PySem.W.SharedT → α) : frSt s k = k s := by
  obtain ⟨T, n, life, gens, drawn, toks, os⟩ := s
  show (frT T fun T => frN n fun n => k ⟨T, n, life, gens, drawn, toks, os⟩) = _
  rw [frT_eq, frN_eq]
end Rln
end
section
set_option Elab.async false
set_option linter.all false
set_option maxRecDepth 100000
set_option maxHeartbeats 0
namespace Rln
open PySem PySem.Spec PyProof.Rows L2
def ob (s : PySem.W.SharedT) : Al := frSt s fun s => frK (HandSHeadRun.getT s) asL fun K => obsX K
theorem ob_eq (s : PySem.W.SharedT) : ob s = hookX.obs s.abs := by
  have e : HandSHeadRun.getT s = s.abs.heap.get? := funext (HandSHeadRun.getT_eq s)
  unfold ob
  rw [frSt_eq, frK_eq, e] <;> rfl
theorem run (w : World) : HandSHeadRun.RunEq R (PySem.W.view R.prog [106]) hookX ob 12000 names w := by
  intro os
  kernel_rfl
end Rln
end
section
set_option Elab.async false
set_option linter.all false
set_option maxRecDepth 100000
set_option maxHeartbeats 4000000
namespace PySem.W
open PySem PySem.Calls PyProof.Rows Builtin
section
variable {prog : Program} {w : World} {A : Around} {E : Value → Shared → Prop} {s : Shared} {K : Frag} {x C L f : Addr} {h₀ : Heap} {m : Str → Option Value} {ox : Obj} {od : Option Obj} {b : Value}
/-- the default != of a class with an own __eq__ -/
theorem rln_objNe (X : K.In s.heap) (I : InstAt s.heap x ox C od) (hs : findIn K (.ref C) "__eq__" = some (some (.ref f))) (hf : isFn K (.ref f) = true) (hu : A.units < cLine) {Q : Fin → Shared → Prop}
    (h : wpAny (model prog w) A (call (.ref f) [.ref x, b]) (fun v s' => ∃ k, v = .bool k ∧ Q (.done (.ret (.bool (!k)))) s') E s) :
    wpAny (model prog w) A (Builtin.«object.__ne__» ⟨[.ref x, b], []⟩) Q E s := by
  unfold Builtin.«object.__ne__»
  refine wpAny_bind (m := slotArgs "__ne__" 1 ⟨[.ref x, b], []⟩) (wpAny_pure ?_)
  refine wpAny_bind (wpAny_cRoomFor hu ?_)
  refine wpAny_bind (m := callSpecialIfBound? (.ref x) (Str.ofString "__eq__") [b]) (ifBound_K X I hs hf (wpAny_mono h (fun v s' hv => ?_) fun _ _ e => e))
  obtain ⟨k, rfl, hq⟩ := hv
  exact wpAny_bind (wpAny_truthy_bool (wpAny_pure hq))
theorem rln_tryNe (X : K.In s.heap) (I : InstAt s.heap x ox C od) (hne : findIn K (.ref C) "__ne__" = some (some (.builtin "object.__ne__"))) (hs : findIn K (.ref C) "__eq__" = some (some (.ref f))) (hf : isFn K (.ref f) = true)
    (hm : mroIn K C (.type "object") = some true) (hu : A.units + 1 < cLine) {Q : Option Value → Shared → Prop}
    (h : wpAny (model prog w) A.in1 (call (.ref f) [.ref x, b]) (fun v s' => ∃ k, v = .bool k ∧ Q (some (.bool (!k))) s') E s) :
    wpAny (model prog w) A (tryCompare (.ref x) "__ne__" b) Q E s := by
  unfold tryCompare
  refine wpAny_bind ?_
  simp only [callSpecialIfBound?, bindSpecialIfBound?]
  refine wpAny_holding (wpAny_bind (wpAny_bind (wpAny_bind (I.type.here ((looks_findIn X hne).here ?_)))))
  simp only [F.cmp_object.ne.bind]
  refine wpAny_bind (wpAny_askSetting (wpAny_ite ?_))
  have fin : wpAny (model prog w) A (call (.builtin "object.__ne__") ([.ref x] ++ [b]) >>= fun v => pure (some v)) (fun r s' => wpAny (model prog w) A (match r with
      | some .notImplemented | none => pure none
      | some v => pure (some v)) Q E s') E s := by
    refine wpAny_bind (wpAny_call (codeAny_call_builtin F.cmp_object.ne.plain F.cmpEntry_ne ?_))
    refine check_slot F.cmpKind_ne F.cmpSplit_ne ?_ (F.cmpArgs_ne _ _) ?_
    · exact I.type.andThen (looks_mroIn X hm)
    · refine rln_objNe (A := A.in1) X I hs hf hu (wpAny_mono h (fun v s' hv => ?_) fun _ _ e => e)
      obtain ⟨k, rfl, hq⟩ := hv
      exact ⟨k, rfl, wpAny_pure (wpAny_pure hq)⟩
  split
  · exact wpAny_bind (wpAny_pure (wpAny_pure fin))
  · exact wpAny_tryCatch (wpAny_bind (wpAny_pure (wpAny_pure fin)))
theorem rln_ne (X : K.In s.heap) (I : InstAt s.heap x ox C od) (hb : Looks (model prog w) s.heap (typeOf b) (.ref C)) (hne : findIn K (.ref C) "__ne__" = some (some (.builtin "object.__ne__"))) (hs : findIn K (.ref C) "__eq__" = some (some (.ref f))) (hf : isFn K (.ref f) = true)
    (hm : mroIn K C (.type "object") = some true) (hu : A.units + 1 < cLine) {Q : Value → Shared → Prop}
    (h : wpAny (model prog w) A.in1 (call (.ref f) [.ref x, b]) (fun v s' => ∃ k, v = .bool k ∧ Q (.bool (!k)) s') E s) :
    wpAny (model prog w) A (richCompare .NotEq (.ref x) b) Q E s := by
  unfold richCompare
  simp only [oneThing_ref]
  refine wpAny_holding (wpAny_bind (wpAny_cRoomFor (Nat.lt_of_succ_lt hu) ?_))
  refine wpAny_bind (I.type.here (wpAny_bind (hb.here ?_)))
  rw [show (Value.ref C != Value.ref C) = false from by simp]
  simp only [Bool.false_eq_true, if_false]
  refine wpAny_bind (wpAny_pure ?_)
  simp only [Bool.false_eq_true, if_false]
  refine wpAny_bind (rln_tryNe X I hne hs hf hm hu (wpAny_mono h (fun v s' hv => ?_) fun _ _ e => e))
  obtain ⟨k, rfl, hq⟩ := hv
  exact ⟨k, rfl, wpAny_pure hq⟩
end
end PySem.W
namespace L2
open PySem PySem.Spec PyProof.Rows
section
variable {X : Cx} {C : Addr} {m : Str} {k : Nat} {sp : Sp}
/-- two instances of the class at C -/
def Two (C : Addr) (x y : V) (H : Hp) : Prop := ∃ a b dx dy fs gs, x = .ref a ∧ y = .ref b ∧ H a = some (.ins C dx fs) ∧ H b = some (.ins C dy gs)
theorem two_at {pins : List (Addr × Obj)} {σ : L2.St} {H : Hp} {s : Shared} {x y : V} {u v : Value} (I : Inv X pins σ H s) (rx : RelV x u) (ry : RelV y v) (t : Two C x y H) :
    ∃ a b ox od oy od2, u = .ref a ∧ v = .ref b ∧ PySem.W.InstAt s.heap a ox C od ∧ PySem.W.InstAt s.heap b oy C od2 := by
  obtain ⟨a, b, dx, dy, fs, gs, rfl, rfl, ha, hb⟩ := t
  cases rx
  cases ry
  obtain ⟨mA, J, _⟩ := ins_get I.hok ha
  obtain ⟨mB, J', _⟩ := ins_get I.hok hb
  obtain ⟨od, J, _⟩ := J.look
  obtain ⟨od', J', _⟩ := J'.look
  exact ⟨a, b, _, _, _, _, rfl, rfl, J, J'⟩
theorem back_of {Q : Value → Shared → Prop} {v : V} {u : Value} {s : Shared} (r : RelV v u) (q : Q u s) : PySem.W.CmpBack Q u s := by
  cases v <;> first | (obtain ⟨t, rfl⟩ := r; exact q) | (cases r; exact q)
/-- a op b by the class's own method -/
theorem op_own {op : Operator} (c : C8.Met X.prog X.w X.K X.mg X.base k C (PySem.dunder op.info.2) sp []) (hc : PySem.W.selfFirst X.K C = true) (hr : Room k X.A) :
    OpR X (binaryOp op) (fun x y H Q => Two C x y H ∧ sp [x, y] H Q C8.E0) := by
  intro pins s σ H x y u v Q I rx ry h
  obtain ⟨t, h⟩ := h
  obtain ⟨f, fd, ps, ds, hC, hm, F, hb, hd⟩ := c.ex
  obtain ⟨a, b, ox, od, oy, od2, rfl, rfl, J, J'⟩ := two_at I rx ry t
  obtain ⟨m, hF⟩ := I.fr
  refine PySem.W.binop_K hF I.ok.mod.kin J J'.type hc hm.at_ hm.fn (thn (run_fn (us := [.ref a, .ref b]) (vs := [x, y]) F hr hb hd C8.pass0 I (.cons rx (.cons ry .nil)) h) fun r s' q => ?_)
  obtain ⟨v, H', I', rv, q⟩ := q
  exact back_of rv ⟨v, H', I', rv, q⟩
/-- ~a by the class's own method -/
theorem un_own (c : C8.Met X.prog X.w X.K X.mg X.base k C "__invert__" sp []) (hr : Room k X.A) :
    UnR X (unaryOp .Invert) (fun x H Q => (∃ a dx fs, x = .ref a ∧ H a = some (.ins C dx fs)) ∧ sp [x] H Q C8.E0) := by
  intro pins s σ H x u Q I rx h
  obtain ⟨⟨a, dx, fs, rfl, ha⟩, h⟩ := h
  obtain ⟨f, fd, ps, ds, hC, hm, F, hb, hd⟩ := c.ex
  cases rx
  obtain ⟨mA, J, _⟩ := ins_get I.hok ha
  obtain ⟨od, J, _⟩ := J.look
  obtain ⟨m, hF⟩ := I.fr
  exact PySem.W.ksp_inv hF I.ok.mod.kin J hm.at_ hm.fn (run_fn (us := [.ref a]) (vs := [.ref a]) F hr hb hd C8.pass0 I (.cons rfl .nil) h)
/-- a == b by the class's own method -/
theorem op_eq_own (c : C8.Met X.prog X.w X.K X.mg X.base k C "__eq__" sp []) (hr : Room k X.A) :
    OpR X (compareOp .Eq) (fun x y H Q => Two C x y H ∧ sp [x, y] H Q C8.E0) := by
  intro pins s σ H x y u v Q I rx ry h
  obtain ⟨t, h⟩ := h
  obtain ⟨f, fd, ps, ds, hC, hm, F, hb, hd⟩ := c.ex
  obtain ⟨a, b, ox, od, oy, od2, rfl, rfl, J, J'⟩ := two_at I rx ry t
  obtain ⟨m, hF⟩ := I.fr
  show wpAny (model X.prog X.w) X.A (richCompare .Eq _ _) _ _ _
  refine PySem.W.cmp_K (op := .Eq) (tb := .ref C) hr.units0 hF I.ok.mod.kin J J'.type (by simp [PySem.W.notFirst]) hm.at_ hm.fn (thn (run_fn (us := [.ref a, .ref b]) (vs := [x, y]) F hr hb hd C8.pass0 I (.cons rx (.cons ry .nil)) h) fun r s' q => ?_)
  obtain ⟨v, H', I', rv, q⟩ := q
  exact back_of rv ⟨v, H', I', rv, q⟩
/-- a def called one level in (from a built-in's body) -/
theorem run_in1 {pins : List (Addr × Obj)} {σ : L2.St} {H : Hp} {s : Shared} {Q : VK} {us : List Value} {vs : List V} {f : Addr} {fd : FuncData} {ps : List Str} (F : FnOk X.prog X.w X.K X.mg X.base C8.CX0 k f fd ps sp) (hr : Room (k + 1) X.A) (hb : Binds X.K fd ps [])
    (I : Inv X pins σ H s) (r : Vals vs us) (h : sp vs H Q C8.E0) : wpAny (model X.prog X.w) X.A.in1 (call (.ref f) us) (EP X pins σ Q) X.xe s := by
  have hl := F.len _ _ _ _ h
  refine wpAny_call (codeAny_mono (F.run X.A.in1 X.stack s H ⟨us, []⟩ us vs Q C8.E0 hr.in1 I.env0.in1 (by
    have := hb s us I.kIn (by rw [List.append_nil, ← r.length]; exact hl)
    rw [List.append_nil] at this
    exact this) r h) fun r s' hq => ?_)
  cases r with
  | error e => exact False.elim hq
  | ok fl =>
    cases fl with
    | ret u => exact I.after hq
    | next => exact False.elim hq
    | brk => exact False.elim hq
    | cont => exact False.elim hq
theorem met_binds {fd : FuncData} {ps : List Str} {ds : List Value} (hb : Binds X.K fd ps ds) (hd : Vals [] ds) : Binds X.K fd ps [] := by
  cases hd
  exact hb
/-- a != b by the class's own __eq__ -/
theorem op_ne_own (c : C8.Met X.prog X.w X.K X.mg X.base k C "__eq__" sp []) (hne : PySem.W.findIn X.K (.ref C) "__ne__" = some (some (.builtin "object.__ne__"))) (ho : PySem.W.mroIn X.K C (.type "object") = some true) (hr : Room (k + 1) X.A) :
    OpR X (compareOp .NotEq) (fun x y H Q => Two C x y H ∧ sp [x, y] H (fun v H' => ∃ b, v = .bl b ∧ Q (.bl (!b)) H') C8.E0) := by
  intro pins s σ H x y u v Q I rx ry h
  obtain ⟨t, h⟩ := h
  obtain ⟨f, fd, ps, ds, hC, hm, F, hb, hd⟩ := c.ex
  obtain ⟨a, b, ox, od, oy, od2, rfl, rfl, J, J'⟩ := two_at I rx ry t
  show wpAny (model X.prog X.w) X.A (richCompare .NotEq _ _) _ _ _
  refine PySem.W.rln_ne I.kIn J J'.type hne hm.at_ hm.fn ho (by have := hr.units; omega) (thn (run_in1 (us := [.ref a, .ref b]) (vs := [x, y]) F hr (met_binds hb hd) I (.cons rx (.cons ry .nil)) h) fun r s' q => ?_)
  obtain ⟨v, H', I', rv, k, rfl, q⟩ := q
  cases rv
  exact ⟨k, rfl, .bl (!k), H', I', rfl, q⟩
/-- len(a) by the class's own __len__ -/
theorem call_len_own (c : C8.Met X.prog X.w X.K X.mg X.base k C "__len__" sp []) (hr : Room (k + 1) X.A) :
    CallR X (.builtin "len") (fun xs H Q => (∃ a dx fs, xs = [.ref a] ∧ H a = some (.ins C dx fs)) ∧ sp xs H (fun v H' => ∃ n : Int, v = .int n ∧ 0 ≤ n ∧ n < 2 ^ 63 ∧ Q (.int n) H') C8.E0) := by
  intro pins s σ H xs us Q I r h
  obtain ⟨⟨a, dx, fs, rfl, ha⟩, h⟩ := h
  obtain ⟨f, fd, ps, ds, hC, hm, F, hb, hd⟩ := c.ex
  cases r with
  | cons rx rr =>
  cases rr
  cases rx
  obtain ⟨mA, J, _⟩ := ins_get I.hok ha
  obtain ⟨od, J, _⟩ := J.look
  obtain ⟨m, hF⟩ := I.fr
  refine PySem.W.len_K hF I.ok.mod.kin J hm.at_ hm.fn (thn (run_in1 (us := [.ref a]) (vs := [.ref a]) F hr (met_binds hb hd) I (.cons rfl .nil) h) fun r s' q => ?_)
  obtain ⟨v, H', I', rv, n, rfl, h0, h1, q⟩ := q
  obtain ⟨t, rfl⟩ := rv
  exact ⟨⟨h0, h1⟩, .int n, H', I'.tok _, ⟨_, rfl⟩, q⟩
end
end L2
end
section
set_option Elab.async false
set_option linter.all false
set_option maxRecDepth 100000
set_option maxHeartbeats 4000000
namespace Rln
open PySem PySem.Spec PyProof.Rows L2
/-- what the head leaves: the written part K, the module's names mg -/
structure Tx (K : PySem.W.Frag) (mg : Str → Option Value) : Prop where
  says : Says K
  gl : ∀ x : Str, (He.Fa.glo x).ok K = true → mg x = some (.ref (He.ga K x))
  fr : ∀ x : Str, (He.Fa.free x).ok K = true → mg x = none
  it : ∀ (x : Str) (i : Int), (He.Fa.int x i).ok K = true → ∃ t, mg x = some (.int i t)
  st : ∀ x z : Str, (He.Fa.str x z).ok K = true → ∃ t, mg x = some (.str z t)
theorem Tx.of {K : PySem.W.Frag} {mg : Str → Option Value} {h : Heap} (X : K.In h) (G : h.Ns mainGlobals mg) (c : Says K) : Tx K mg where
  says := c
  gl := fun _ z => He.glo_ok X G z
  fr := fun _ z => He.free_ok X G z
  it := fun _ _ z => He.int_ok X G z
  st := fun _ _ z => He.str_ok X G z
section
variable {K : PySem.W.Frag} {mg : Str → Option Value}
abbrev cForm (K : PySem.W.Frag) : Addr := He.ga K "Form"
abbrev cLW (K : PySem.W.Frag) : Addr := He.ga K "LineWork"
abbrev cPl (K : PySem.W.Frag) : Addr := He.ga K "Plainest"
abbrev cDist (K : PySem.W.Frag) : Addr := He.ga K "Distances"
abbrev cStory (K : PySem.W.Frag) : Addr := He.ga K "Story"
abbrev cPlan (K : PySem.W.Frag) : Addr := He.ga K "Plan"

theorem Tx.g_is_whole (T : Tx K mg) : mg "is_whole" = some (.ref (He.ga K "is_whole")) := T.gl _ (T.says.d.fact 0)
theorem Tx.g_is_thing (T : Tx K mg) : mg "is_thing" = some (.ref (He.ga K "is_thing")) := T.gl _ (T.says.d.fact 1)
theorem Tx.g_is_window (T : Tx K mg) : mg "is_window" = some (.ref (He.ga K "is_window")) := T.gl _ (T.says.d.fact 2)
theorem Tx.g_is_length (T : Tx K mg) : mg "is_length" = some (.ref (He.ga K "is_length")) := T.gl _ (T.says.d.fact 3)
theorem Tx.g_is_plain_deed (T : Tx K mg) : mg "is_plain_deed" = some (.ref (He.ga K "is_plain_deed")) := T.gl _ (T.says.d.fact 4)
theorem Tx.g_is_deed (T : Tx K mg) : mg "is_deed" = some (.ref (He.ga K "is_deed")) := T.gl _ (T.says.d.fact 5)
theorem Tx.g_common_divisor (T : Tx K mg) : mg "common_divisor" = some (.ref (He.ga K "common_divisor")) := T.gl _ (T.says.d.fact 6)
theorem Tx.g_common_multiple (T : Tx K mg) : mg "common_multiple" = some (.ref (He.ga K "common_multiple")) := T.gl _ (T.says.d.fact 7)
theorem Tx.g_is_worth (T : Tx K mg) : mg "is_worth" = some (.ref (He.ga K "is_worth")) := T.gl _ (T.says.d.fact 8)
theorem Tx.g_is_same (T : Tx K mg) : mg "is_same" = some (.ref (He.ga K "is_same")) := T.gl _ (T.says.d.fact 9)
theorem Tx.g_work_of (T : Tx K mg) : mg "work_of" = some (.ref (He.ga K "work_of")) := T.gl _ (T.says.d.fact 10)
theorem Tx.g_told_of (T : Tx K mg) : mg "told_of" = some (.ref (He.ga K "told_of")) := T.gl _ (T.says.d.fact 11)
theorem Tx.g_prime_divisors (T : Tx K mg) : mg "prime_divisors" = some (.ref (He.ga K "prime_divisors")) := T.gl _ (T.says.d.fact 12)
theorem Tx.g_is_periodic (T : Tx K mg) : mg "is_periodic" = some (.ref (He.ga K "is_periodic")) := T.gl _ (T.says.d.fact 13)
theorem Tx.g_least_period (T : Tx K mg) : mg "least_period" = some (.ref (He.ga K "least_period")) := T.gl _ (T.says.d.fact 14)
theorem Tx.g_sums_of (T : Tx K mg) : mg "sums_of" = some (.ref (He.ga K "sums_of")) := T.gl _ (T.says.d.fact 15)
theorem Tx.g_checked (T : Tx K mg) : mg "checked" = some (.ref (He.ga K "checked")) := T.gl _ (T.says.d.fact 16)
theorem Tx.g_joined (T : Tx K mg) : mg "joined" = some (.ref (He.ga K "joined")) := T.gl _ (T.says.d.fact 17)
theorem Tx.g_inner (T : Tx K mg) : mg "inner" = some (.ref (He.ga K "inner")) := T.gl _ (T.says.d.fact 18)
theorem Tx.g_modulus_of (T : Tx K mg) : mg "modulus_of" = some (.ref (He.ga K "modulus_of")) := T.gl _ (T.says.d.fact 19)
theorem Tx.g_bound_of (T : Tx K mg) : mg "bound_of" = some (.ref (He.ga K "bound_of")) := T.gl _ (T.says.d.fact 20)
theorem Tx.g_moved (T : Tx K mg) : mg "moved" = some (.ref (He.ga K "moved")) := T.gl _ (T.says.d.fact 21)
theorem Tx.g_story_of (T : Tx K mg) : mg "story_of" = some (.ref (He.ga K "story_of")) := T.gl _ (T.says.d.fact 22)
theorem Tx.g_rows_of (T : Tx K mg) : mg "rows_of" = some (.ref (He.ga K "rows_of")) := T.gl _ (T.says.d.fact 23)
theorem Tx.g_is_row (T : Tx K mg) : mg "is_row" = some (.ref (He.ga K "is_row")) := T.gl _ (T.says.d.fact 24)
theorem Tx.g_start_of (T : Tx K mg) : mg "start_of" = some (.ref (He.ga K "start_of")) := T.gl _ (T.says.d.fact 25)
theorem Tx.g_set_of (T : Tx K mg) : mg "set_of" = some (.ref (He.ga K "set_of")) := T.gl _ (T.says.d.fact 26)
theorem Tx.g_fails (T : Tx K mg) : mg "fails" = some (.ref (He.ga K "fails")) := T.gl _ (T.says.d.fact 27)
theorem Tx.g_failing_of (T : Tx K mg) : mg "failing_of" = some (.ref (He.ga K "failing_of")) := T.gl _ (T.says.d.fact 28)
theorem Tx.g_failing (T : Tx K mg) : mg "failing" = some (.ref (He.ga K "failing")) := T.gl _ (T.says.d.fact 29)
theorem Tx.g_check_index (T : Tx K mg) : mg "check_index" = some (.ref (He.ga K "check_index")) := T.gl _ (T.says.d.fact 30)
theorem Tx.g_carrying_of (T : Tx K mg) : mg "carrying_of" = some (.ref (He.ga K "carrying_of")) := T.gl _ (T.says.d.fact 31)
theorem Tx.g_is_carried (T : Tx K mg) : mg "is_carried" = some (.ref (He.ga K "is_carried")) := T.gl _ (T.says.d.fact 32)
theorem Tx.g_carrying (T : Tx K mg) : mg "carrying" = some (.ref (He.ga K "carrying")) := T.gl _ (T.says.d.fact 33)
theorem Tx.g_showing_of (T : Tx K mg) : mg "showing_of" = some (.ref (He.ga K "showing_of")) := T.gl _ (T.says.d.fact 34)
theorem Tx.g_showing (T : Tx K mg) : mg "showing" = some (.ref (He.ga K "showing")) := T.gl _ (T.says.d.fact 35)
theorem Tx.g_same_tellings (T : Tx K mg) : mg "same_tellings" = some (.ref (He.ga K "same_tellings")) := T.gl _ (T.says.d.fact 36)
theorem Tx.g_is_told (T : Tx K mg) : mg "is_told" = some (.ref (He.ga K "is_told")) := T.gl _ (T.says.d.fact 37)
theorem Tx.g_resting (T : Tx K mg) : mg "resting" = some (.ref (He.ga K "resting")) := T.gl _ (T.says.d.fact 38)
theorem Tx.g_meeting (T : Tx K mg) : mg "meeting" = some (.ref (He.ga K "meeting")) := T.gl _ (T.says.d.fact 39)
theorem Tx.g_is_apart (T : Tx K mg) : mg "is_apart" = some (.ref (He.ga K "is_apart")) := T.gl _ (T.says.d.fact 40)
theorem Tx.g_read_number (T : Tx K mg) : mg "read_number" = some (.ref (He.ga K "read_number")) := T.gl _ (T.says.d.fact 41)
theorem Tx.g_deed_text (T : Tx K mg) : mg "deed_text" = some (.ref (He.ga K "deed_text")) := T.gl _ (T.says.d.fact 42)
theorem Tx.g_plan_text (T : Tx K mg) : mg "plan_text" = some (.ref (He.ga K "plan_text")) := T.gl _ (T.says.d.fact 43)
theorem Tx.g_read_plain (T : Tx K mg) : mg "read_plain" = some (.ref (He.ga K "read_plain")) := T.gl _ (T.says.d.fact 44)
theorem Tx.g_read_deed (T : Tx K mg) : mg "read_deed" = some (.ref (He.ga K "read_deed")) := T.gl _ (T.says.d.fact 45)
theorem Tx.g_read_plan (T : Tx K mg) : mg "read_plan" = some (.ref (He.ga K "read_plan")) := T.gl _ (T.says.d.fact 46)
theorem Tx.g__law_pot (T : Tx K mg) : mg "_law_pot" = some (.ref (He.ga K "_law_pot")) := T.gl _ (T.says.d.fact 47)
theorem Tx.g__law_dip (T : Tx K mg) : mg "_law_dip" = some (.ref (He.ga K "_law_dip")) := T.gl _ (T.says.d.fact 48)
theorem Tx.g__law_things (T : Tx K mg) : mg "_law_things" = some (.ref (He.ga K "_law_things")) := T.gl _ (T.says.d.fact 49)
theorem Tx.g__law_window (T : Tx K mg) : mg "_law_window" = some (.ref (He.ga K "_law_window")) := T.gl _ (T.says.d.fact 50)
theorem Tx.g__law_plain (T : Tx K mg) : mg "_law_plain" = some (.ref (He.ga K "_law_plain")) := T.gl _ (T.says.d.fact 51)
theorem Tx.g__law_deeds (T : Tx K mg) : mg "_law_deeds" = some (.ref (He.ga K "_law_deeds")) := T.gl _ (T.says.d.fact 52)
theorem Tx.g__law_plan (T : Tx K mg) : mg "_law_plan" = some (.ref (He.ga K "_law_plan")) := T.gl _ (T.says.d.fact 53)
theorem Tx.g__law_inner (T : Tx K mg) : mg "_law_inner" = some (.ref (He.ga K "_law_inner")) := T.gl _ (T.says.d.fact 54)
theorem Tx.g__law_all (T : Tx K mg) : mg "_law_all" = some (.ref (He.ga K "_law_all")) := T.gl _ (T.says.d.fact 55)
theorem Tx.g__law_right (T : Tx K mg) : mg "_law_right" = some (.ref (He.ga K "_law_right")) := T.gl _ (T.says.d.fact 56)
theorem Tx.g_law (T : Tx K mg) : mg "law" = some (.ref (He.ga K "law")) := T.gl _ (T.says.d.fact 57)
theorem Tx.g_Form (T : Tx K mg) : mg "Form" = some (.ref (He.ga K "Form")) := T.gl _ (T.says.d.fact 58)
theorem Tx.g_LineWork (T : Tx K mg) : mg "LineWork" = some (.ref (He.ga K "LineWork")) := T.gl _ (T.says.d.fact 59)
theorem Tx.g_Plainest (T : Tx K mg) : mg "Plainest" = some (.ref (He.ga K "Plainest")) := T.gl _ (T.says.d.fact 60)
theorem Tx.g_Distances (T : Tx K mg) : mg "Distances" = some (.ref (He.ga K "Distances")) := T.gl _ (T.says.d.fact 61)
theorem Tx.g_Story (T : Tx K mg) : mg "Story" = some (.ref (He.ga K "Story")) := T.gl _ (T.says.d.fact 62)
theorem Tx.g_Plan (T : Tx K mg) : mg "Plan" = some (.ref (He.ga K "Plan")) := T.gl _ (T.says.d.fact 63)
theorem Tx.n_isinstance (T : Tx K mg) : mg "isinstance" = none := T.fr _ (T.says.d.fact 64)
theorem Tx.n_int (T : Tx K mg) : mg "int" = none := T.fr _ (T.says.d.fact 65)
theorem Tx.n_bool (T : Tx K mg) : mg "bool" = none := T.fr _ (T.says.d.fact 66)
theorem Tx.n_str (T : Tx K mg) : mg "str" = none := T.fr _ (T.says.d.fact 67)
theorem Tx.n_tuple (T : Tx K mg) : mg "tuple" = none := T.fr _ (T.says.d.fact 68)
theorem Tx.n_list (T : Tx K mg) : mg "list" = none := T.fr _ (T.says.d.fact 69)
theorem Tx.n_len (T : Tx K mg) : mg "len" = none := T.fr _ (T.says.d.fact 70)
theorem Tx.n_all (T : Tx K mg) : mg "all" = none := T.fr _ (T.says.d.fact 71)
theorem Tx.n_any (T : Tx K mg) : mg "any" = none := T.fr _ (T.says.d.fact 72)
theorem Tx.n_abs (T : Tx K mg) : mg "abs" = none := T.fr _ (T.says.d.fact 73)
theorem Tx.n_range (T : Tx K mg) : mg "range" = none := T.fr _ (T.says.d.fact 74)
theorem Tx.n_min (T : Tx K mg) : mg "min" = none := T.fr _ (T.says.d.fact 75)
theorem Tx.n_max (T : Tx K mg) : mg "max" = none := T.fr _ (T.says.d.fact 76)
theorem Tx.n_enumerate (T : Tx K mg) : mg "enumerate" = none := T.fr _ (T.says.d.fact 77)
theorem Tx.n_zip (T : Tx K mg) : mg "zip" = none := T.fr _ (T.says.d.fact 78)
theorem Tx.n_sorted (T : Tx K mg) : mg "sorted" = none := T.fr _ (T.says.d.fact 79)
theorem Tx.n_set (T : Tx K mg) : mg "set" = none := T.fr _ (T.says.d.fact 80)
theorem Tx.i_LONGEST_THING (T : Tx K mg) : ∃ u, mg "LONGEST_THING" = some u ∧ RelV (.int 8) u := let ⟨t, e⟩ := T.it _ _ (T.says.d.fact 81); ⟨_, e, t, rfl⟩
theorem Tx.i_GREATEST_PULL (T : Tx K mg) : ∃ u, mg "GREATEST_PULL" = some u ∧ RelV (.int 40) u := let ⟨t, e⟩ := T.it _ _ (T.says.d.fact 82); ⟨_, e, t, rfl⟩
theorem Tx.i_GREATEST_STEP (T : Tx K mg) : ∃ u, mg "GREATEST_STEP" = some u ∧ RelV (.int 6) u := let ⟨t, e⟩ := T.it _ _ (T.says.d.fact 83); ⟨_, e, t, rfl⟩
theorem Tx.i_MOST_MODULUS (T : Tx K mg) : ∃ u, mg "MOST_MODULUS" = some u ∧ RelV (.int 720) u := let ⟨t, e⟩ := T.it _ _ (T.says.d.fact 84); ⟨_, e, t, rfl⟩
theorem Tx.i_MOST_DEEDS (T : Tx K mg) : ∃ u, mg "MOST_DEEDS" = some u ∧ RelV (.int 12) u := let ⟨t, e⟩ := T.it _ _ (T.says.d.fact 85); ⟨_, e, t, rfl⟩
theorem Tx.i_LETTERS (T : Tx K mg) : ∃ u, mg "LETTERS" = some u ∧ RelV (.str "abcdefghijklmnopqrstuvwxyz") u := let ⟨t, e⟩ := T.st _ _ (T.says.d.fact 86); ⟨_, e, t, rfl⟩
theorem Tx.c_Form (T : Tx K mg) : Cls K (He.ga K "Form") := He.cls_ok (T.says.d.fact 87)
theorem Tx.na_Form_row (T : Tx K mg) : NoAttr K (He.ga K "Form") "row" := He.noat_ok (T.says.d.fact 88)
theorem Tx.m_Form_parts (T : Tx K mg) : Meth K (He.ga K "Form") "parts" (He.ma K (He.ga K "Form") "parts") := He.meth_ok (T.says.d.fact 89)
theorem Tx.mk_Form (T : Tx K mg) : Mk K (He.ga K "Form") (He.ma K (He.ga K "Form") "__init__") := He.mkr_ok (T.says.d.fact 90)
theorem Tx.c_LineWork (T : Tx K mg) : Cls K (He.ga K "LineWork") := He.cls_ok (T.says.d.fact 91)
theorem Tx.na_LineWork_half (T : Tx K mg) : NoAttr K (He.ga K "LineWork") "half" := He.noat_ok (T.says.d.fact 92)
theorem Tx.na_LineWork_stand (T : Tx K mg) : NoAttr K (He.ga K "LineWork") "stand" := He.noat_ok (T.says.d.fact 93)
theorem Tx.na_LineWork_hung (T : Tx K mg) : NoAttr K (He.ga K "LineWork") "hung" := He.noat_ok (T.says.d.fact 94)
theorem Tx.na_LineWork_lengths (T : Tx K mg) : NoAttr K (He.ga K "LineWork") "lengths" := He.noat_ok (T.says.d.fact 95)
theorem Tx.m_LineWork_spot_at (T : Tx K mg) : Meth K (He.ga K "LineWork") "spot_at" (He.ma K (He.ga K "LineWork") "spot_at") := He.meth_ok (T.says.d.fact 96)
theorem Tx.m_LineWork_thing_at (T : Tx K mg) : Meth K (He.ga K "LineWork") "thing_at" (He.ma K (He.ga K "LineWork") "thing_at") := He.meth_ok (T.says.d.fact 97)
theorem Tx.m_LineWork_shift (T : Tx K mg) : Meth K (He.ga K "LineWork") "shift" (He.ma K (He.ga K "LineWork") "shift") := He.meth_ok (T.says.d.fact 98)
theorem Tx.m_LineWork_tell (T : Tx K mg) : Meth K (He.ga K "LineWork") "tell" (He.ma K (He.ga K "LineWork") "tell") := He.meth_ok (T.says.d.fact 99)
theorem Tx.m_LineWork_look (T : Tx K mg) : Meth K (He.ga K "LineWork") "look" (He.ma K (He.ga K "LineWork") "look") := He.meth_ok (T.says.d.fact 100)
theorem Tx.m_LineWork_peg (T : Tx K mg) : Meth K (He.ga K "LineWork") "peg" (He.ma K (He.ga K "LineWork") "peg") := He.meth_ok (T.says.d.fact 101)
theorem Tx.m_LineWork_hang (T : Tx K mg) : Meth K (He.ga K "LineWork") "hang" (He.ma K (He.ga K "LineWork") "hang") := He.meth_ok (T.says.d.fact 102)
theorem Tx.m_LineWork_fetch (T : Tx K mg) : Meth K (He.ga K "LineWork") "fetch" (He.ma K (He.ga K "LineWork") "fetch") := He.meth_ok (T.says.d.fact 103)
theorem Tx.m_LineWork_walk (T : Tx K mg) : Meth K (He.ga K "LineWork") "walk" (He.ma K (He.ga K "LineWork") "walk") := He.meth_ok (T.says.d.fact 104)
theorem Tx.m_LineWork_times_to (T : Tx K mg) : Meth K (He.ga K "LineWork") "times_to" (He.ma K (He.ga K "LineWork") "times_to") := He.meth_ok (T.says.d.fact 105)
theorem Tx.mk_LineWork (T : Tx K mg) : Mk K (He.ga K "LineWork") (He.ma K (He.ga K "LineWork") "__init__") := He.mkr_ok (T.says.d.fact 106)
theorem Tx.c_Plainest (T : Tx K mg) : Cls K (He.ga K "Plainest") := He.cls_ok (T.says.d.fact 107)
theorem Tx.na_Plainest_period (T : Tx K mg) : NoAttr K (He.ga K "Plainest") "period" := He.noat_ok (T.says.d.fact 108)
theorem Tx.na_Plainest_flags (T : Tx K mg) : NoAttr K (He.ga K "Plainest") "flags" := He.noat_ok (T.says.d.fact 109)
theorem Tx.na_Plainest_flipped (T : Tx K mg) : NoAttr K (He.ga K "Plainest") "flipped" := He.noat_ok (T.says.d.fact 110)
theorem Tx.na_Plainest_below (T : Tx K mg) : NoAttr K (He.ga K "Plainest") "below" := He.noat_ok (T.says.d.fact 111)
theorem Tx.m_Plainest_is_in (T : Tx K mg) : Meth K (He.ga K "Plainest") "is_in" (He.ma K (He.ga K "Plainest") "is_in") := He.meth_ok (T.says.d.fact 112)
theorem Tx.mk_Plainest (T : Tx K mg) : Mk K (He.ga K "Plainest") (He.ma K (He.ga K "Plainest") "__init__") := He.mkr_ok (T.says.d.fact 113)
theorem Tx.c_Distances (T : Tx K mg) : Cls K (He.ga K "Distances") := He.cls_ok (T.says.d.fact 114)
theorem Tx.na_Distances_plain (T : Tx K mg) : NoAttr K (He.ga K "Distances") "plain" := He.noat_ok (T.says.d.fact 115)
theorem Tx.m_Distances_eq (T : Tx K mg) : Meth K (He.ga K "Distances") "__eq__" (He.ma K (He.ga K "Distances") "__eq__") := He.meth_ok (T.says.d.fact 116)
theorem Tx.m_Distances_or (T : Tx K mg) : Meth K (He.ga K "Distances") "__or__" (He.ma K (He.ga K "Distances") "__or__") := He.meth_ok (T.says.d.fact 117)
theorem Tx.m_Distances_and (T : Tx K mg) : Meth K (He.ga K "Distances") "__and__" (He.ma K (He.ga K "Distances") "__and__") := He.meth_ok (T.says.d.fact 118)
theorem Tx.m_Distances_xor (T : Tx K mg) : Meth K (He.ga K "Distances") "__xor__" (He.ma K (He.ga K "Distances") "__xor__") := He.meth_ok (T.says.d.fact 119)
theorem Tx.m_Distances_invert (T : Tx K mg) : Meth K (He.ga K "Distances") "__invert__" (He.ma K (He.ga K "Distances") "__invert__") := He.meth_ok (T.says.d.fact 120)
theorem Tx.mk_Distances (T : Tx K mg) : Mk K (He.ga K "Distances") (He.ma K (He.ga K "Distances") "__init__") := He.mkr_ok (T.says.d.fact 121)
theorem Tx.c_Story (T : Tx K mg) : Cls K (He.ga K "Story") := He.cls_ok (T.says.d.fact 122)
theorem Tx.na_Story_remainder (T : Tx K mg) : NoAttr K (He.ga K "Story") "remainder" := He.noat_ok (T.says.d.fact 123)
theorem Tx.na_Story_stand (T : Tx K mg) : NoAttr K (He.ga K "Story") "stand" := He.noat_ok (T.says.d.fact 124)
theorem Tx.na_Story_hung (T : Tx K mg) : NoAttr K (He.ga K "Story") "hung" := He.noat_ok (T.says.d.fact 125)
theorem Tx.m_Story_spot_at (T : Tx K mg) : Meth K (He.ga K "Story") "spot_at" (He.ma K (He.ga K "Story") "spot_at") := He.meth_ok (T.says.d.fact 126)
theorem Tx.m_Story_thing_at (T : Tx K mg) : Meth K (He.ga K "Story") "thing_at" (He.ma K (He.ga K "Story") "thing_at") := He.meth_ok (T.says.d.fact 127)
theorem Tx.m_Story_bring (T : Tx K mg) : Meth K (He.ga K "Story") "bring" (He.ma K (He.ga K "Story") "bring") := He.meth_ok (T.says.d.fact 128)
theorem Tx.m_Story_gap (T : Tx K mg) : Meth K (He.ga K "Story") "gap" (He.ma K (He.ga K "Story") "gap") := He.meth_ok (T.says.d.fact 129)
theorem Tx.m_Story_tell (T : Tx K mg) : Meth K (He.ga K "Story") "tell" (He.ma K (He.ga K "Story") "tell") := He.meth_ok (T.says.d.fact 130)
theorem Tx.m_Story_peg (T : Tx K mg) : Meth K (He.ga K "Story") "peg" (He.ma K (He.ga K "Story") "peg") := He.meth_ok (T.says.d.fact 131)
theorem Tx.m_Story_hang (T : Tx K mg) : Meth K (He.ga K "Story") "hang" (He.ma K (He.ga K "Story") "hang") := He.meth_ok (T.says.d.fact 132)
theorem Tx.m_Story_fetch (T : Tx K mg) : Meth K (He.ga K "Story") "fetch" (He.ma K (He.ga K "Story") "fetch") := He.meth_ok (T.says.d.fact 133)
theorem Tx.m_Story_walk (T : Tx K mg) : Meth K (He.ga K "Story") "walk" (He.ma K (He.ga K "Story") "walk") := He.meth_ok (T.says.d.fact 134)
theorem Tx.m_Story_way (T : Tx K mg) : Meth K (He.ga K "Story") "way" (He.ma K (He.ga K "Story") "way") := He.meth_ok (T.says.d.fact 135)
theorem Tx.mk_Story (T : Tx K mg) : Mk K (He.ga K "Story") (He.ma K (He.ga K "Story") "__init__") := He.mkr_ok (T.says.d.fact 136)
theorem Tx.c_Plan (T : Tx K mg) : Cls K (He.ga K "Plan") := He.cls_ok (T.says.d.fact 137)
theorem Tx.na_Plan_kept (T : Tx K mg) : NoAttr K (He.ga K "Plan") "kept" := He.noat_ok (T.says.d.fact 138)
theorem Tx.m_Plan_len (T : Tx K mg) : Meth K (He.ga K "Plan") "__len__" (He.ma K (He.ga K "Plan") "__len__") := He.meth_ok (T.says.d.fact 139)
theorem Tx.m_Plan_add (T : Tx K mg) : Meth K (He.ga K "Plan") "__add__" (He.ma K (He.ga K "Plan") "__add__") := He.meth_ok (T.says.d.fact 140)
theorem Tx.m_Plan_has (T : Tx K mg) : Meth K (He.ga K "Plan") "has" (He.ma K (He.ga K "Plan") "has") := He.meth_ok (T.says.d.fact 141)
theorem Tx.m_Plan_deeds (T : Tx K mg) : Meth K (He.ga K "Plan") "deeds" (He.ma K (He.ga K "Plan") "deeds") := He.meth_ok (T.says.d.fact 142)
theorem Tx.m_Plan_without (T : Tx K mg) : Meth K (He.ga K "Plan") "without" (He.ma K (He.ga K "Plan") "without") := He.meth_ok (T.says.d.fact 143)
theorem Tx.m_Plan_exchanged (T : Tx K mg) : Meth K (He.ga K "Plan") "exchanged" (He.ma K (He.ga K "Plan") "exchanged") := He.meth_ok (T.says.d.fact 144)
theorem Tx.mk_Plan (T : Tx K mg) : Mk K (He.ga K "Plan") (He.ma K (He.ga K "Plan") "__init__") := He.mkr_ok (T.says.d.fact 145)
theorem Tx.g_UNION (T : Tx K mg) : mg "UNION" = some (.ref (He.ga K "UNION")) := T.gl _ (T.says.d.fact 146)
theorem Tx.g_COMMON (T : Tx K mg) : mg "COMMON" = some (.ref (He.ga K "COMMON")) := T.gl _ (T.says.d.fact 147)
theorem Tx.g_IN_ONE (T : Tx K mg) : mg "IN_ONE" = some (.ref (He.ga K "IN_ONE")) := T.gl _ (T.says.d.fact 148)
theorem Tx.g_WINDOWS (T : Tx K mg) : mg "WINDOWS" = some (.ref (He.ga K "WINDOWS")) := T.gl _ (T.says.d.fact 149)
theorem Tx.f_is_whole (T : Tx K mg) : ∃ fd, FunD K "is_whole" "is_whole" (defArgs s_is_whole) (defBody s_is_whole) (defScope s_is_whole) [] [] (He.fAd K ("is_whole", none)) fd := T.says.d.def_ 0
theorem Tx.f_is_thing (T : Tx K mg) : ∃ fd, FunD K "is_thing" "is_thing" (defArgs s_is_thing) (defBody s_is_thing) (defScope s_is_thing) [] [] (He.fAd K ("is_thing", none)) fd := T.says.d.def_ 1
theorem Tx.f_is_window (T : Tx K mg) : ∃ fd, FunD K "is_window" "is_window" (defArgs s_is_window) (defBody s_is_window) (defScope s_is_window) [] [] (He.fAd K ("is_window", none)) fd := T.says.d.def_ 2
theorem Tx.f_is_length (T : Tx K mg) : ∃ fd, FunD K "is_length" "is_length" (defArgs s_is_length) (defBody s_is_length) (defScope s_is_length) [] [] (He.fAd K ("is_length", none)) fd := T.says.d.def_ 3
theorem Tx.f_is_plain_deed (T : Tx K mg) : ∃ fd, FunD K "is_plain_deed" "is_plain_deed" (defArgs s_is_plain_deed) (defBody s_is_plain_deed) (defScope s_is_plain_deed) [] [] (He.fAd K ("is_plain_deed", none)) fd := T.says.d.def_ 4
theorem Tx.f_is_deed (T : Tx K mg) : ∃ fd, FunD K "is_deed" "is_deed" (defArgs s_is_deed) (defBody s_is_deed) (defScope s_is_deed) [] [] (He.fAd K ("is_deed", none)) fd := T.says.d.def_ 5
theorem Tx.f_common_divisor (T : Tx K mg) : ∃ fd, FunD K "common_divisor" "common_divisor" (defArgs s_common_divisor) (defBody s_common_divisor) (defScope s_common_divisor) [] [] (He.fAd K ("common_divisor", none)) fd := T.says.d.def_ 6
theorem Tx.f_common_multiple (T : Tx K mg) : ∃ fd, FunD K "common_multiple" "common_multiple" (defArgs s_common_multiple) (defBody s_common_multiple) (defScope s_common_multiple) [] [] (He.fAd K ("common_multiple", none)) fd := T.says.d.def_ 7
theorem Tx.f_is_worth (T : Tx K mg) : ∃ fd, FunD K "is_worth" "is_worth" (defArgs s_is_worth) (defBody s_is_worth) (defScope s_is_worth) [] [] (He.fAd K ("is_worth", none)) fd := T.says.d.def_ 8
theorem Tx.f_is_same (T : Tx K mg) : ∃ fd, FunD K "is_same" "is_same" (defArgs s_is_same) (defBody s_is_same) (defScope s_is_same) [] [] (He.fAd K ("is_same", none)) fd := T.says.d.def_ 9
theorem Tx.f_work_of (T : Tx K mg) : ∃ fd, FunD K "work_of" "work_of" (defArgs s_work_of) (defBody s_work_of) (defScope s_work_of) [] [] (He.fAd K ("work_of", none)) fd := T.says.d.def_ 10
theorem Tx.f_told_of (T : Tx K mg) : ∃ fd, FunD K "told_of" "told_of" (defArgs s_told_of) (defBody s_told_of) (defScope s_told_of) [] [] (He.fAd K ("told_of", none)) fd := T.says.d.def_ 11
theorem Tx.f_prime_divisors (T : Tx K mg) : ∃ fd, FunD K "prime_divisors" "prime_divisors" (defArgs s_prime_divisors) (defBody s_prime_divisors) (defScope s_prime_divisors) [] [] (He.fAd K ("prime_divisors", none)) fd := T.says.d.def_ 12
theorem Tx.f_is_periodic (T : Tx K mg) : ∃ fd, FunD K "is_periodic" "is_periodic" (defArgs s_is_periodic) (defBody s_is_periodic) (defScope s_is_periodic) [] [] (He.fAd K ("is_periodic", none)) fd := T.says.d.def_ 13
theorem Tx.f_least_period (T : Tx K mg) : ∃ fd, FunD K "least_period" "least_period" (defArgs s_least_period) (defBody s_least_period) (defScope s_least_period) [] [] (He.fAd K ("least_period", none)) fd := T.says.d.def_ 14
theorem Tx.f_sums_of (T : Tx K mg) : ∃ fd, FunD K "sums_of" "sums_of" (defArgs s_sums_of) (defBody s_sums_of) (defScope s_sums_of) [] [] (He.fAd K ("sums_of", none)) fd := T.says.d.def_ 15
theorem Tx.f_checked (T : Tx K mg) : ∃ fd, FunD K "checked" "checked" (defArgs s_checked) (defBody s_checked) (defScope s_checked) [] [] (He.fAd K ("checked", none)) fd := T.says.d.def_ 16
theorem Tx.f_joined (T : Tx K mg) : ∃ fd, FunD K "joined" "joined" (defArgs s_joined) (defBody s_joined) (defScope s_joined) [] [] (He.fAd K ("joined", none)) fd := T.says.d.def_ 17
theorem Tx.f_inner (T : Tx K mg) : ∃ fd, FunD K "inner" "inner" (defArgs s_inner) (defBody s_inner) (defScope s_inner) [] [] (He.fAd K ("inner", none)) fd := T.says.d.def_ 18
theorem Tx.f_modulus_of (T : Tx K mg) : ∃ fd, FunD K "modulus_of" "modulus_of" (defArgs s_modulus_of) (defBody s_modulus_of) (defScope s_modulus_of) [] [] (He.fAd K ("modulus_of", none)) fd := T.says.d.def_ 19
theorem Tx.f_bound_of (T : Tx K mg) : ∃ fd, FunD K "bound_of" "bound_of" (defArgs s_bound_of) (defBody s_bound_of) (defScope s_bound_of) [] [] (He.fAd K ("bound_of", none)) fd := T.says.d.def_ 20
theorem Tx.f_moved (T : Tx K mg) : ∃ fd, FunD K "moved" "moved" (defArgs s_moved) (defBody s_moved) (defScope s_moved) [] [] (He.fAd K ("moved", none)) fd := T.says.d.def_ 21
theorem Tx.f_story_of (T : Tx K mg) : ∃ fd, FunD K "story_of" "story_of" (defArgs s_story_of) (defBody s_story_of) (defScope s_story_of) [] [] (He.fAd K ("story_of", none)) fd := T.says.d.def_ 22
theorem Tx.f_rows_of (T : Tx K mg) : ∃ fd, FunD K "rows_of" "rows_of" (defArgs s_rows_of) (defBody s_rows_of) (defScope s_rows_of) [] [] (He.fAd K ("rows_of", none)) fd := T.says.d.def_ 23
theorem Tx.f_is_row (T : Tx K mg) : ∃ fd, FunD K "is_row" "is_row" (defArgs s_is_row) (defBody s_is_row) (defScope s_is_row) [] [] (He.fAd K ("is_row", none)) fd := T.says.d.def_ 24
theorem Tx.f_start_of (T : Tx K mg) : ∃ fd, FunD K "start_of" "start_of" (defArgs s_start_of) (defBody s_start_of) (defScope s_start_of) [] [] (He.fAd K ("start_of", none)) fd := T.says.d.def_ 25
theorem Tx.f_set_of (T : Tx K mg) : ∃ fd, FunD K "set_of" "set_of" (defArgs s_set_of) (defBody s_set_of) (defScope s_set_of) [] [] (He.fAd K ("set_of", none)) fd := T.says.d.def_ 26
theorem Tx.f_fails (T : Tx K mg) : ∃ fd, FunD K "fails" "fails" (defArgs s_fails) (defBody s_fails) (defScope s_fails) [] [] (He.fAd K ("fails", none)) fd := T.says.d.def_ 27
theorem Tx.f_failing_of (T : Tx K mg) : ∃ fd, FunD K "failing_of" "failing_of" (defArgs s_failing_of) (defBody s_failing_of) (defScope s_failing_of) [] [] (He.fAd K ("failing_of", none)) fd := T.says.d.def_ 28
theorem Tx.f_failing (T : Tx K mg) : ∃ fd, FunD K "failing" "failing" (defArgs s_failing) (defBody s_failing) (defScope s_failing) [] [] (He.fAd K ("failing", none)) fd := T.says.d.def_ 29
theorem Tx.f_check_index (T : Tx K mg) : ∃ fd, FunD K "check_index" "check_index" (defArgs s_check_index) (defBody s_check_index) (defScope s_check_index) [] [] (He.fAd K ("check_index", none)) fd := T.says.d.def_ 30
theorem Tx.f_carrying_of (T : Tx K mg) : ∃ fd, FunD K "carrying_of" "carrying_of" (defArgs s_carrying_of) (defBody s_carrying_of) (defScope s_carrying_of) [] [] (He.fAd K ("carrying_of", none)) fd := T.says.d.def_ 31
theorem Tx.f_is_carried (T : Tx K mg) : ∃ fd, FunD K "is_carried" "is_carried" (defArgs s_is_carried) (defBody s_is_carried) (defScope s_is_carried) [] [] (He.fAd K ("is_carried", none)) fd := T.says.d.def_ 32
theorem Tx.f_carrying (T : Tx K mg) : ∃ fd, FunD K "carrying" "carrying" (defArgs s_carrying) (defBody s_carrying) (defScope s_carrying) [] [] (He.fAd K ("carrying", none)) fd := T.says.d.def_ 33
theorem Tx.f_showing_of (T : Tx K mg) : ∃ fd, FunD K "showing_of" "showing_of" (defArgs s_showing_of) (defBody s_showing_of) (defScope s_showing_of) [] [] (He.fAd K ("showing_of", none)) fd := T.says.d.def_ 34
theorem Tx.f_showing (T : Tx K mg) : ∃ fd, FunD K "showing" "showing" (defArgs s_showing) (defBody s_showing) (defScope s_showing) [] [] (He.fAd K ("showing", none)) fd := T.says.d.def_ 35
theorem Tx.f_same_tellings (T : Tx K mg) : ∃ fd, FunD K "same_tellings" "same_tellings" (defArgs s_same_tellings) (defBody s_same_tellings) (defScope s_same_tellings) [] [] (He.fAd K ("same_tellings", none)) fd := T.says.d.def_ 36
theorem Tx.f_is_told (T : Tx K mg) : ∃ fd, FunD K "is_told" "is_told" (defArgs s_is_told) (defBody s_is_told) (defScope s_is_told) [] [] (He.fAd K ("is_told", none)) fd := T.says.d.def_ 37
theorem Tx.f_resting (T : Tx K mg) : ∃ fd, FunD K "resting" "resting" (defArgs s_resting) (defBody s_resting) (defScope s_resting) [] [] (He.fAd K ("resting", none)) fd := T.says.d.def_ 38
theorem Tx.f_meeting (T : Tx K mg) : ∃ fd, FunD K "meeting" "meeting" (defArgs s_meeting) (defBody s_meeting) (defScope s_meeting) [] [] (He.fAd K ("meeting", none)) fd := T.says.d.def_ 39
theorem Tx.f_is_apart (T : Tx K mg) : ∃ fd, FunD K "is_apart" "is_apart" (defArgs s_is_apart) (defBody s_is_apart) (defScope s_is_apart) [] [] (He.fAd K ("is_apart", none)) fd := T.says.d.def_ 40
theorem Tx.f_read_number (T : Tx K mg) : ∃ fd, FunD K "read_number" "read_number" (defArgs s_read_number) (defBody s_read_number) (defScope s_read_number) [] [] (He.fAd K ("read_number", none)) fd := T.says.d.def_ 41
theorem Tx.f_deed_text (T : Tx K mg) : ∃ fd, FunD K "deed_text" "deed_text" (defArgs s_deed_text) (defBody s_deed_text) (defScope s_deed_text) [] [] (He.fAd K ("deed_text", none)) fd := T.says.d.def_ 42
theorem Tx.f_plan_text (T : Tx K mg) : ∃ fd, FunD K "plan_text" "plan_text" (defArgs s_plan_text) (defBody s_plan_text) (defScope s_plan_text) [] [] (He.fAd K ("plan_text", none)) fd := T.says.d.def_ 43
theorem Tx.f_read_plain (T : Tx K mg) : ∃ fd, FunD K "read_plain" "read_plain" (defArgs s_read_plain) (defBody s_read_plain) (defScope s_read_plain) [] [] (He.fAd K ("read_plain", none)) fd := T.says.d.def_ 44
theorem Tx.f_read_deed (T : Tx K mg) : ∃ fd, FunD K "read_deed" "read_deed" (defArgs s_read_deed) (defBody s_read_deed) (defScope s_read_deed) [] [] (He.fAd K ("read_deed", none)) fd := T.says.d.def_ 45
theorem Tx.f_read_plan (T : Tx K mg) : ∃ fd, FunD K "read_plan" "read_plan" (defArgs s_read_plan) (defBody s_read_plan) (defScope s_read_plan) [] [] (He.fAd K ("read_plan", none)) fd := T.says.d.def_ 46
theorem Tx.f_l_pot (T : Tx K mg) : ∃ fd, FunD K "_law_pot" "_law_pot" (defArgs s_l_pot) (defBody s_l_pot) (defScope s_l_pot) [] [] (He.fAd K ("_law_pot", none)) fd := T.says.d.def_ 47
theorem Tx.f_l_dip (T : Tx K mg) : ∃ fd, FunD K "_law_dip" "_law_dip" (defArgs s_l_dip) (defBody s_l_dip) (defScope s_l_dip) [] [] (He.fAd K ("_law_dip", none)) fd := T.says.d.def_ 48
theorem Tx.f_l_things (T : Tx K mg) : ∃ fd, FunD K "_law_things" "_law_things" (defArgs s_l_things) (defBody s_l_things) (defScope s_l_things) [] [] (He.fAd K ("_law_things", none)) fd := T.says.d.def_ 49
theorem Tx.f_l_window (T : Tx K mg) : ∃ fd, FunD K "_law_window" "_law_window" (defArgs s_l_window) (defBody s_l_window) (defScope s_l_window) [] [] (He.fAd K ("_law_window", none)) fd := T.says.d.def_ 50
theorem Tx.f_l_plain (T : Tx K mg) : ∃ fd, FunD K "_law_plain" "_law_plain" (defArgs s_l_plain) (defBody s_l_plain) (defScope s_l_plain) [] [] (He.fAd K ("_law_plain", none)) fd := T.says.d.def_ 51
theorem Tx.f_l_deeds (T : Tx K mg) : ∃ fd, FunD K "_law_deeds" "_law_deeds" (defArgs s_l_deeds) (defBody s_l_deeds) (defScope s_l_deeds) [] [] (He.fAd K ("_law_deeds", none)) fd := T.says.d.def_ 52
theorem Tx.f_l_plan (T : Tx K mg) : ∃ fd, FunD K "_law_plan" "_law_plan" (defArgs s_l_plan) (defBody s_l_plan) (defScope s_l_plan) [] [] (He.fAd K ("_law_plan", none)) fd := T.says.d.def_ 53
theorem Tx.f_l_inner (T : Tx K mg) : ∃ fd, FunD K "_law_inner" "_law_inner" (defArgs s_l_inner) (defBody s_l_inner) (defScope s_l_inner) [] [] (He.fAd K ("_law_inner", none)) fd := T.says.d.def_ 54
theorem Tx.f_l_all (T : Tx K mg) : ∃ fd, FunD K "_law_all" "_law_all" (defArgs s_l_all) (defBody s_l_all) (defScope s_l_all) [] [] (He.fAd K ("_law_all", none)) fd := T.says.d.def_ 55
theorem Tx.f_l_right (T : Tx K mg) : ∃ fd, FunD K "_law_right" "_law_right" (defArgs s_l_right) (defBody s_l_right) (defScope s_l_right) [] [] (He.fAd K ("_law_right", none)) fd := T.says.d.def_ 56
theorem Tx.f_law (T : Tx K mg) : ∃ fd, FunD K "law" "law" (defArgs s_law) (defBody s_law) (defScope s_law) [] [] (He.fAd K ("law", none)) fd := T.says.d.def_ 57
theorem Tx.f_Form_init (T : Tx K mg) : ∃ fd, FunD K "__init__" "Form.__init__" (defArgs s_Form_init) (defBody s_Form_init) (defScope s_Form_init) [.int 0, .int 1] [] (He.fAd K ("Form", some "__init__")) fd := T.says.d.def_ 58
theorem Tx.f_Form_parts (T : Tx K mg) : ∃ fd, FunD K "parts" "Form.parts" (defArgs s_Form_parts) (defBody s_Form_parts) (defScope s_Form_parts) [] [] (He.fAd K ("Form", some "parts")) fd := T.says.d.def_ 59
theorem Tx.f_LineWork_init (T : Tx K mg) : ∃ fd, FunD K "__init__" "LineWork.__init__" (defArgs s_LineWork_init) (defBody s_LineWork_init) (defScope s_LineWork_init) [] [] (He.fAd K ("LineWork", some "__init__")) fd := T.says.d.def_ 60
theorem Tx.f_LineWork_spot_at (T : Tx K mg) : ∃ fd, FunD K "spot_at" "LineWork.spot_at" (defArgs s_LineWork_spot_at) (defBody s_LineWork_spot_at) (defScope s_LineWork_spot_at) [] [] (He.fAd K ("LineWork", some "spot_at")) fd := T.says.d.def_ 61
theorem Tx.f_LineWork_thing_at (T : Tx K mg) : ∃ fd, FunD K "thing_at" "LineWork.thing_at" (defArgs s_LineWork_thing_at) (defBody s_LineWork_thing_at) (defScope s_LineWork_thing_at) [] [] (He.fAd K ("LineWork", some "thing_at")) fd := T.says.d.def_ 62
theorem Tx.f_LineWork_shift (T : Tx K mg) : ∃ fd, FunD K "shift" "LineWork.shift" (defArgs s_LineWork_shift) (defBody s_LineWork_shift) (defScope s_LineWork_shift) [] [] (He.fAd K ("LineWork", some "shift")) fd := T.says.d.def_ 63
theorem Tx.f_LineWork_tell (T : Tx K mg) : ∃ fd, FunD K "tell" "LineWork.tell" (defArgs s_LineWork_tell) (defBody s_LineWork_tell) (defScope s_LineWork_tell) [] [] (He.fAd K ("LineWork", some "tell")) fd := T.says.d.def_ 64
theorem Tx.f_LineWork_look (T : Tx K mg) : ∃ fd, FunD K "look" "LineWork.look" (defArgs s_LineWork_look) (defBody s_LineWork_look) (defScope s_LineWork_look) [] [] (He.fAd K ("LineWork", some "look")) fd := T.says.d.def_ 65
theorem Tx.f_LineWork_peg (T : Tx K mg) : ∃ fd, FunD K "peg" "LineWork.peg" (defArgs s_LineWork_peg) (defBody s_LineWork_peg) (defScope s_LineWork_peg) [] [] (He.fAd K ("LineWork", some "peg")) fd := T.says.d.def_ 66
theorem Tx.f_LineWork_hang (T : Tx K mg) : ∃ fd, FunD K "hang" "LineWork.hang" (defArgs s_LineWork_hang) (defBody s_LineWork_hang) (defScope s_LineWork_hang) [] [] (He.fAd K ("LineWork", some "hang")) fd := T.says.d.def_ 67
theorem Tx.f_LineWork_fetch (T : Tx K mg) : ∃ fd, FunD K "fetch" "LineWork.fetch" (defArgs s_LineWork_fetch) (defBody s_LineWork_fetch) (defScope s_LineWork_fetch) [] [] (He.fAd K ("LineWork", some "fetch")) fd := T.says.d.def_ 68
theorem Tx.f_LineWork_walk (T : Tx K mg) : ∃ fd, FunD K "walk" "LineWork.walk" (defArgs s_LineWork_walk) (defBody s_LineWork_walk) (defScope s_LineWork_walk) [] [] (He.fAd K ("LineWork", some "walk")) fd := T.says.d.def_ 69
theorem Tx.f_LineWork_times_to (T : Tx K mg) : ∃ fd, FunD K "times_to" "LineWork.times_to" (defArgs s_LineWork_times_to) (defBody s_LineWork_times_to) (defScope s_LineWork_times_to) [] [] (He.fAd K ("LineWork", some "times_to")) fd := T.says.d.def_ 70
theorem Tx.f_Plainest_init (T : Tx K mg) : ∃ fd, FunD K "__init__" "Plainest.__init__" (defArgs s_Plainest_init) (defBody s_Plainest_init) (defScope s_Plainest_init) [] [] (He.fAd K ("Plainest", some "__init__")) fd := T.says.d.def_ 71
theorem Tx.f_Plainest_is_in (T : Tx K mg) : ∃ fd, FunD K "is_in" "Plainest.is_in" (defArgs s_Plainest_is_in) (defBody s_Plainest_is_in) (defScope s_Plainest_is_in) [] [] (He.fAd K ("Plainest", some "is_in")) fd := T.says.d.def_ 72
theorem Tx.f_Distances_init (T : Tx K mg) : ∃ fd, FunD K "__init__" "Distances.__init__" (defArgs s_Distances_init) (defBody s_Distances_init) (defScope s_Distances_init) [.int 1, .ref (He.dflAt ("Distances", some "__init__") 1 K), .ref (He.dflAt ("Distances", some "__init__") 2 K)] [] (He.fAd K ("Distances", some "__init__")) fd := T.says.d.def_ 73
theorem Tx.f_Distances_eq (T : Tx K mg) : ∃ fd, FunD K "__eq__" "Distances.__eq__" (defArgs s_Distances_eq) (defBody s_Distances_eq) (defScope s_Distances_eq) [] [] (He.fAd K ("Distances", some "__eq__")) fd := T.says.d.def_ 74
theorem Tx.f_Distances_or (T : Tx K mg) : ∃ fd, FunD K "__or__" "Distances.__or__" (defArgs s_Distances_or) (defBody s_Distances_or) (defScope s_Distances_or) [] [] (He.fAd K ("Distances", some "__or__")) fd := T.says.d.def_ 75
theorem Tx.f_Distances_and (T : Tx K mg) : ∃ fd, FunD K "__and__" "Distances.__and__" (defArgs s_Distances_and) (defBody s_Distances_and) (defScope s_Distances_and) [] [] (He.fAd K ("Distances", some "__and__")) fd := T.says.d.def_ 76
theorem Tx.f_Distances_xor (T : Tx K mg) : ∃ fd, FunD K "__xor__" "Distances.__xor__" (defArgs s_Distances_xor) (defBody s_Distances_xor) (defScope s_Distances_xor) [] [] (He.fAd K ("Distances", some "__xor__")) fd := T.says.d.def_ 77
theorem Tx.f_Distances_invert (T : Tx K mg) : ∃ fd, FunD K "__invert__" "Distances.__invert__" (defArgs s_Distances_invert) (defBody s_Distances_invert) (defScope s_Distances_invert) [] [] (He.fAd K ("Distances", some "__invert__")) fd := T.says.d.def_ 78
theorem Tx.f_Story_init (T : Tx K mg) : ∃ fd, FunD K "__init__" "Story.__init__" (defArgs s_Story_init) (defBody s_Story_init) (defScope s_Story_init) [] [] (He.fAd K ("Story", some "__init__")) fd := T.says.d.def_ 79
theorem Tx.f_Story_spot_at (T : Tx K mg) : ∃ fd, FunD K "spot_at" "Story.spot_at" (defArgs s_Story_spot_at) (defBody s_Story_spot_at) (defScope s_Story_spot_at) [] [] (He.fAd K ("Story", some "spot_at")) fd := T.says.d.def_ 80
theorem Tx.f_Story_thing_at (T : Tx K mg) : ∃ fd, FunD K "thing_at" "Story.thing_at" (defArgs s_Story_thing_at) (defBody s_Story_thing_at) (defScope s_Story_thing_at) [] [] (He.fAd K ("Story", some "thing_at")) fd := T.says.d.def_ 81
theorem Tx.f_Story_bring (T : Tx K mg) : ∃ fd, FunD K "bring" "Story.bring" (defArgs s_Story_bring) (defBody s_Story_bring) (defScope s_Story_bring) [] [] (He.fAd K ("Story", some "bring")) fd := T.says.d.def_ 82
theorem Tx.f_Story_gap (T : Tx K mg) : ∃ fd, FunD K "gap" "Story.gap" (defArgs s_Story_gap) (defBody s_Story_gap) (defScope s_Story_gap) [] [] (He.fAd K ("Story", some "gap")) fd := T.says.d.def_ 83
theorem Tx.f_Story_tell (T : Tx K mg) : ∃ fd, FunD K "tell" "Story.tell" (defArgs s_Story_tell) (defBody s_Story_tell) (defScope s_Story_tell) [] [] (He.fAd K ("Story", some "tell")) fd := T.says.d.def_ 84
theorem Tx.f_Story_peg (T : Tx K mg) : ∃ fd, FunD K "peg" "Story.peg" (defArgs s_Story_peg) (defBody s_Story_peg) (defScope s_Story_peg) [] [] (He.fAd K ("Story", some "peg")) fd := T.says.d.def_ 85
theorem Tx.f_Story_hang (T : Tx K mg) : ∃ fd, FunD K "hang" "Story.hang" (defArgs s_Story_hang) (defBody s_Story_hang) (defScope s_Story_hang) [] [] (He.fAd K ("Story", some "hang")) fd := T.says.d.def_ 86
theorem Tx.f_Story_fetch (T : Tx K mg) : ∃ fd, FunD K "fetch" "Story.fetch" (defArgs s_Story_fetch) (defBody s_Story_fetch) (defScope s_Story_fetch) [] [] (He.fAd K ("Story", some "fetch")) fd := T.says.d.def_ 87
theorem Tx.f_Story_walk (T : Tx K mg) : ∃ fd, FunD K "walk" "Story.walk" (defArgs s_Story_walk) (defBody s_Story_walk) (defScope s_Story_walk) [] [] (He.fAd K ("Story", some "walk")) fd := T.says.d.def_ 88
theorem Tx.f_Story_way (T : Tx K mg) : ∃ fd, FunD K "way" "Story.way" (defArgs s_Story_way) (defBody s_Story_way) (defScope s_Story_way) [] [] (He.fAd K ("Story", some "way")) fd := T.says.d.def_ 89
theorem Tx.f_Plan_init (T : Tx K mg) : ∃ fd, FunD K "__init__" "Plan.__init__" (defArgs s_Plan_init) (defBody s_Plan_init) (defScope s_Plan_init) [.ref (He.dflAt ("Plan", some "__init__") 0 K)] [] (He.fAd K ("Plan", some "__init__")) fd := T.says.d.def_ 90
theorem Tx.f_Plan_len (T : Tx K mg) : ∃ fd, FunD K "__len__" "Plan.__len__" (defArgs s_Plan_len) (defBody s_Plan_len) (defScope s_Plan_len) [] [] (He.fAd K ("Plan", some "__len__")) fd := T.says.d.def_ 91
theorem Tx.f_Plan_add (T : Tx K mg) : ∃ fd, FunD K "__add__" "Plan.__add__" (defArgs s_Plan_add) (defBody s_Plan_add) (defScope s_Plan_add) [] [] (He.fAd K ("Plan", some "__add__")) fd := T.says.d.def_ 92
theorem Tx.f_Plan_has (T : Tx K mg) : ∃ fd, FunD K "has" "Plan.has" (defArgs s_Plan_has) (defBody s_Plan_has) (defScope s_Plan_has) [] [] (He.fAd K ("Plan", some "has")) fd := T.says.d.def_ 93
theorem Tx.f_Plan_deeds (T : Tx K mg) : ∃ fd, FunD K "deeds" "Plan.deeds" (defArgs s_Plan_deeds) (defBody s_Plan_deeds) (defScope s_Plan_deeds) [] [] (He.fAd K ("Plan", some "deeds")) fd := T.says.d.def_ 94
theorem Tx.f_Plan_without (T : Tx K mg) : ∃ fd, FunD K "without" "Plan.without" (defArgs s_Plan_without) (defBody s_Plan_without) (defScope s_Plan_without) [] [] (He.fAd K ("Plan", some "without")) fd := T.says.d.def_ 95
theorem Tx.f_Plan_exchanged (T : Tx K mg) : ∃ fd, FunD K "exchanged" "Plan.exchanged" (defArgs s_Plan_exchanged) (defBody s_Plan_exchanged) (defScope s_Plan_exchanged) [] [] (He.fAd K ("Plan", some "exchanged")) fd := T.says.d.def_ 96
theorem Tx.xx (T : Tx K mg) (i : Nat) {b : Bool} (h : (exL K)[i]? = some b) : b = true := List.all_eq_true.mp T.says.x b (List.mem_of_getElem? h)
theorem tupAt_ok {a : Addr} {vs : List V} (h : tupAt K a vs = true) (H : Hp) : SqT K H a vs := by
  unfold tupAt at h
  cases q : K.lookup a with
  | none =>
    rw [q] at h
    cases h
  | some o =>
    obtain ⟨oc, od, dt, osl⟩ := o
    rw [q] at h
    cases oc with
    | type c =>
      cases dt with
      | seq its n =>
        obtain ⟨h1, h2⟩ := He.ba (show (decide (c = "tuple") && (decide (its.size ≤ sizeLine) && He.relAll vs its.toList)) = true from h)
        obtain ⟨h3, h4⟩ := He.ba h2
        exact .inr ⟨_, its, n, q, congrArg Value.type (of_decide_eq_true h1), rfl, of_decide_eq_true h3, He.relAll_ok h4⟩
      | _ => cases h
    | _ => cases dt <;> cases h
theorem Tx.t_UNION (T : Tx K mg) (H : Hp) : SqT K H (He.ga K "UNION") [.bl false, .bl true, .bl true, .bl true] := He.tupB_ok (T.xx 0 rfl) H
theorem Tx.t_COMMON (T : Tx K mg) (H : Hp) : SqT K H (He.ga K "COMMON") [.bl false, .bl false, .bl false, .bl true] := He.tupB_ok (T.xx 1 rfl) H
theorem Tx.t_IN_ONE (T : Tx K mg) (H : Hp) : SqT K H (He.ga K "IN_ONE") [.bl false, .bl true, .bl true, .bl false] := He.tupB_ok (T.xx 2 rfl) H
theorem Tx.t_WINDOWS (T : Tx K mg) (H : Hp) : SqT K H (He.ga K "WINDOWS") [.str "near", .str "far"] := He.tupB_ok (T.xx 3 rfl) H
theorem Tx.d_Dist1 (T : Tx K mg) (H : Hp) : SqT K H (He.dflAt ("Distances", some "__init__") 1 K) [] := tupAt_ok (T.xx 4 rfl) H
theorem Tx.d_Dist2 (T : Tx K mg) (H : Hp) : SqT K H (He.dflAt ("Distances", some "__init__") 2 K) [] := tupAt_ok (T.xx 5 rfl) H
theorem Tx.d_Plan0 (T : Tx K mg) (H : Hp) : SqT K H (He.dflAt ("Plan", some "__init__") 0 K) [] := tupAt_ok (T.xx 6 rfl) H
theorem Tx.insC_ (T : Tx K mg) {x : Str} (c : Cls K (He.ga K x)) (h : insB K x = true) : C8.InsC K (He.ga K x) := by
  obtain ⟨h1, h2⟩ := He.ba h
  obtain ⟨h3, h4⟩ := He.ba h2
  exact ⟨c, of_decide_eq_true h1, of_decide_eq_true (T.xx 16 rfl), of_decide_eq_true (T.xx 17 rfl), of_decide_eq_true h3, of_decide_eq_true h4⟩
theorem Tx.ins_Form (T : Tx K mg) : C8.InsC K (He.ga K "Form") := T.insC_ T.c_Form (T.xx 7 rfl)
theorem Tx.ins_Pl (T : Tx K mg) : C8.InsC K (He.ga K "Plainest") := T.insC_ T.c_Plainest (T.xx 8 rfl)
theorem Tx.ins_Dist (T : Tx K mg) : C8.InsC K (He.ga K "Distances") := T.insC_ T.c_Distances (T.xx 9 rfl)
theorem Tx.ins_Plan (T : Tx K mg) : C8.InsC K (He.ga K "Plan") := T.insC_ T.c_Plan (T.xx 10 rfl)
theorem Tx.k_none (T : Tx K mg) : PySem.W.kitOne K (.type "NoneType") (.ref (He.ga K "Form")) = some false := of_decide_eq_true (T.xx 11 rfl)
theorem Tx.k_bool (T : Tx K mg) : PySem.W.kitOne K (.type "bool") (.ref (He.ga K "Form")) = some false := of_decide_eq_true (T.xx 12 rfl)
theorem Tx.k_str (T : Tx K mg) : PySem.W.kitOne K (.type "str") (.ref (He.ga K "Form")) = some false := of_decide_eq_true (T.xx 13 rfl)
theorem Tx.k_int (T : Tx K mg) : PySem.W.kitOne K (.type "int") (.ref (He.ga K "Form")) = some false := of_decide_eq_true (T.xx 14 rfl)
theorem Tx.k_intPl (T : Tx K mg) : PySem.W.kitOne K (.type "int") (.ref (He.ga K "Plainest")) = some false := of_decide_eq_true (T.xx 15 rfl)
theorem Tx.ne_Dist (T : Tx K mg) : PySem.W.findIn K (.ref (He.ga K "Distances")) "__ne__" = some (some (.builtin "object.__ne__")) := of_decide_eq_true (T.xx 18 rfl)
theorem Tx.sf_Dist (T : Tx K mg) : PySem.W.selfFirst K (He.ga K "Distances") = true := T.xx 19 rfl
theorem Tx.sf_Plan (T : Tx K mg) : PySem.W.selfFirst K (He.ga K "Plan") = true := T.xx 20 rfl
end
/-! ### a def of the text keeps its promise -/
section
variable {P : Program} {w : World} {K : PySem.W.Frag} {mg : Str → Option Value} {base : Heap} {x qual : Str} {st : Stmt} {dvs : List V} {f C : Addr} {N ps : List Str} {k : Nat} {sp : Sp}
abbrev Cal := C8.Cal
abbrev Met := C8.Met
abbrev Mak := C8.Mak
/-- a body's promise -/
def BodyOk (P : Program) (w : World) (K : PySem.W.Frag) (mg : Str → Option Value) (base : Heap) (qual : Str) (st : Stmt) (N : List Str) (f : Addr) (k : Nat) (sp : Sp) : Prop :=
  ∀ (cdv : Value) (A : Around) (outer : List Env) (s : Shared) (H : Hp) (vs : List V) (Q : VK) (E : XK), Room k (A.deeper (envOfC qual (defScope st) s.heap.objs.size f cdv)) → sp vs H Q E →
    ∃ t, PSs (cxOf C8.CX0 P w K mg base N qual (defScope st) f cdv A outer s H E).nox (defBody st) t ∧ t { nx := fun _ H' => Q .non H', rt := Q } (start N vs) H
theorem fnD {fd : FuncData} (F : FunD K x qual (defArgs st) (defBody st) (defScope st) dvs [] f fd) (S : FnScope N ps (defScope st)) (len : ∀ vs H Q E, sp vs H Q E → vs.length = ps.length)
    (hb : BodyOk P w K mg base qual st N f k sp) : FnOk P w K mg base C8.CX0 (k + 1) f fd ps sp :=
  F.ok S len fun cdv A outer s H vs Q E hr h => by
    obtain ⟨t, p, q⟩ := hb cdv A outer s H vs Q E hr h
    exact ⟨t, p.nox, q⟩
theorem calD (hF : ∃ fd, FunD K x x (defArgs st) (defBody st) (defScope st) [] [] (He.fAd K (x, none)) fd) (hg : mg x = some (.ref (He.ga K x))) (S : FnScope N ps (defScope st)) (len : ∀ vs H Q E, sp vs H Q E → vs.length = ps.length)
    (hb : ∀ (kV doc pm : Value) (an : Option Addr) (cdv ct : Value) (us : List Value), us.length = ps.length → bindArgs (PySem.W.fnOf x x (defArgs st) (defBody st) (defScope st) .none kV doc pm an cdv ct) ⟨us, []⟩ = pure (ps.zip us))
    (h : BodyOk P w K mg base x st N (He.fAd K (x, none)) k sp) : Cal P w K mg base (k + 1) x sp [] := by
  obtain ⟨fd, F⟩ := hF
  exact ⟨_, fd, ps, [], fnD F S len h, hg, F.kp, F.bindsN hb, .nil⟩
theorem metD {c m : Str} (hF : ∃ fd, FunD K m qual (defArgs st) (defBody st) (defScope st) [] [] (He.fAd K (c, some m)) fd) (hC : Cls K (He.ga K c)) (hM : Meth K (He.ga K c) m (He.ma K (He.ga K c) m)) (S : FnScope N ps (defScope st))
    (len : ∀ vs H Q E, sp vs H Q E → vs.length = ps.length)
    (hb : ∀ (kV doc pm : Value) (an : Option Addr) (cdv ct : Value) (us : List Value), us.length = ps.length → bindArgs (PySem.W.fnOf m qual (defArgs st) (defBody st) (defScope st) .none kV doc pm an cdv ct) ⟨us, []⟩ = pure (ps.zip us))
    (h : BodyOk P w K mg base qual st N (He.fAd K (c, some m)) k sp) : Met P w K mg base (k + 1) (He.ga K c) m sp [] := by
  obtain ⟨fd, F⟩ := hF
  exact ⟨_, fd, ps, [], hC, hM, fnD F S len h, F.bindsN hb, .nil⟩
theorem makD {c : Str} (hF : ∃ fd, FunD K "__init__" qual (defArgs st) (defBody st) (defScope st) [] [] (He.fAd K (c, some "__init__")) fd) (hM : Mk K (He.ga K c) (He.ma K (He.ga K c) "__init__")) (hg : mg c = some (.ref (He.ga K c))) (S : FnScope N ps (defScope st))
    (len : ∀ vs H Q E, sp vs H Q E → vs.length = ps.length)
    (hb : ∀ (kV doc pm : Value) (an : Option Addr) (cdv ct : Value) (us : List Value), us.length = ps.length → bindArgs (PySem.W.fnOf "__init__" qual (defArgs st) (defBody st) (defScope st) .none kV doc pm an cdv ct) ⟨us, []⟩ = pure (ps.zip us))
    (h : BodyOk P w K mg base qual st N (He.fAd K (c, some "__init__")) k sp) : Mak P w K mg base (k + 1) c (He.ga K c) sp [] := by
  obtain ⟨fd, F⟩ := hF
  exact ⟨_, fd, ps, [], hM, fnD F S len h, hg, F.bindsN hb, .nil⟩
/-- with defaults: n values written (self among them), the defaults behind the first j -/
theorem makDd {c : Str} (n j : Nat) (hF : ∃ fd, FunD K "__init__" qual (defArgs st) (defBody st) (defScope st) dvs [] (He.fAd K (c, some "__init__")) fd) (hd : dvs ≠ []) (hn : n + (dvs.length - j) = ps.length) (hM : Mk K (He.ga K c) (He.ma K (He.ga K c) "__init__")) (hg : mg c = some (.ref (He.ga K c))) (S : FnScope N ps (defScope st))
    (len : ∀ vs H Q E, sp vs H Q E → vs.length = ps.length)
    (hb : ∀ (T : Addr) (kV doc pm : Value) (an : Option Addr) (cdv ct : Value) (us its : List Value), us.length = n → its.length = dvs.length →
      ∃ k, bindArgs (PySem.W.fnOf "__init__" qual (defArgs st) (defBody st) (defScope st) (.ref T) kV doc pm an cdv ct) ⟨us, []⟩ = seqItems? (.ref T) >>= k ∧ k (some its.toArray) = pure (ps.zip (us ++ its.drop j)))
    (h : BodyOk P w K mg base qual st N (He.fAd K (c, some "__init__")) k sp) : Mak P w K mg base (k + 1) c (He.ga K c) sp (dvs.drop j) := by
  obtain ⟨fd, F⟩ := hF
  obtain ⟨ds, r, b⟩ := F.binds1 n j hd hn hb
  exact ⟨_, fd, ps, ds, hM, fnD F S len h, hg, b, r⟩
end
section
variable {X : Cx} {k j : Nat} {C : Addr} {x m : Str} {sp : Sp} {dvs : List V} {p pos apos : Pos}
theorem pe_c0 (c : C8.Cal X.prog X.w X.K X.mg X.base k x sp dvs) (hr : Room j X.A) (hk : k ≤ j) (hg : Gl X x) (hdb : (x == ("__debug__" : Str)) = false := by decide) : PE X (.Call (.Name x p) [] [] pos) (tCall sp dvs C8.E0 tNil) := by
  obtain ⟨f, fd, ps, ds, F, hm, kp, b, d⟩ := c.ex
  exact pe_call0 F (hr.mono hk) hg hm kp b d C8.pass0 hdb
theorem pe_mk0 (c : C8.Mak X.prog X.w X.K X.mg X.base k x C sp dvs) (hr : Room j X.A) (hk : k + 1 ≤ j) (hg : Gl X x) (hdb : (x == ("__debug__" : Str)) = false := by decide) : PE X (.Call (.Name x p) [] [] pos) (tMake C sp dvs C8.E0 tNil) := by
  obtain ⟨f, fd, ps, ds, M, F, hm, b, d⟩ := c.ex
  exact pe_make0 M F (hr.mono hk) hg hm b d C8.pass0 hdb
end
end Rln
end
section
set_option autoImplicit false
namespace Rln
/-! ### the line: mirror of LineWork and of Story -/
inductive TV (T : Type) where
  | non | bl (b : Bool) | no | str (t : T) | int (i : Int) | form
inductive PD (T : Type) where
  | peg (far : Bool) (t : T) | hang (far : Bool) (t : T) | take (far : Bool) | look (far : Bool)
  | fetch (far : Bool) (t : T) | pull (n : Int) | walk (far : Bool) (s : Int)
inductive Deed (T : Type) where
  | pl (p : PD T) | whn (far : Bool) (what : Option T) (p : PD T)
section
variable {T : Type}
def Deed.inner : Deed T → PD T
  | .pl p => p
  | .whn _ _ p => p
structure LW (T : Type) where
  stand : Int
  hung : List (T × Int)
structure SW (T : Type) where
  stand : Int × Int
  hung : List (T × (Int × Int))
def b2 (b : Bool) : Int := if b then 1 else 0
def getK [DecidableEq T] {α : Type} (l : List (T × α)) (t : T) : Option α := (l.find? fun p => decide (p.1 = t)).map (·.2)
def delK [DecidableEq T] {α : Type} (l : List (T × α)) (t : T) : List (T × α) := l.filter fun p => !decide (p.1 = t)
def whoAt {α : Type} [DecidableEq α] (l : List (T × α)) (x : α) : Option T := (l.find? fun p => decide (p.2 = x)).map (·.1)
/-! LineWork -/
def spotL (d : Int) (s : LW T) (far : Bool) : Int := (s.stand + if far then d else 0) % (2 * d)
def thingL (d : Int) (s : LW T) (far : Bool) : Option T := whoAt s.hung (spotL d s far)
def shiftL (d : Int) (s : LW T) (n : Int) : LW T := { s with stand := (s.stand + n) % (2 * d) }
/-- the least number below f that is free, or f -/
def firstN (free : Nat → Bool) (f : Nat) : Nat := ((List.range f).find? fun (i : Nat) => free i).getD f
def freeL (d : Int) (s : LW T) (far : Bool) (i : Nat) : Bool := (whoAt s.hung ((s.stand + (i : Int) + if far then d else 0) % (2 * d))).isNone
def nL (d : Int) (s : LW T) (far : Bool) : Nat := firstN (freeL d s far) s.hung.length
def firstL (d : Int) (s : LW T) (far : Bool) (place step : Int) : Int := (if step > 0 then place - spotL d s far else -(place - spotL d s far)) % (2 * d)
def timesTo (d : Int) (s : LW T) (far : Bool) (place step : Int) : Option Int :=
  ((List.range step.natAbs).find? fun (r : Nat) => decide ((firstL d s far place step + (r : Int) * 2 * d) % (step.natAbs : Int) = 0)).map
    fun (r : Nat) => (firstL d s far place step + (r : Int) * 2 * d) / (step.natAbs : Int)
def minI : List Int → Option Int
  | [] => none
  | x :: xs => some (xs.foldl min x)
variable [DecidableEq T]
def tellPL (d : Int) (s : LW T) : PD T → LW T × TV T
  | .pull n => (shiftL d s n, .bl true)
  | .peg far t => if (getK s.hung t).isSome || (thingL d s far).isSome then (s, .bl false) else ({ s with hung := s.hung ++ [(t, spotL d s far)] }, .bl true)
  | .hang far t => if (getK s.hung t).isSome || decide ((s.hung.length : Int) = 2 * d) then (s, .non) else
      (⟨(s.stand + (nL d s far : Int)) % (2 * d), s.hung ++ [(t, (s.stand + (nL d s far : Int) + if far then d else 0) % (2 * d))]⟩, .int (nL d s far : Int))
  | .fetch far t => match getK s.hung t with
    | none => (s, .non)
    | some p => (shiftL d s ((p - spotL d s far) % (2 * d)), .int ((p - spotL d s far) % (2 * d)))
  | .walk far st => match minI (s.hung.filterMap fun p => timesTo d s far p.2 st) with
    | none => (s, .non)
    | some n => (shiftL d s (n * st), .int n)
  | .take far => match thingL d s far with
    | none => (s, .non)
    | some t => ({ s with hung := delK s.hung t }, .str t)
  | .look far => match thingL d s far with
    | none => (s, .non)
    | some t => (s, .str t)
def tellL (d : Int) (s : LW T) : Deed T → LW T × TV T
  | .pl p => tellPL d s p
  | .whn far what p => if thingL d s far = what then tellPL d s p else (s, .no)
def runL (d : Int) : LW T → List (Deed T) → LW T × List (TV T)
  | s, [] => (s, [])
  | s, x :: xs => ((runL d (tellL d s x).1 xs).1, (tellL d s x).2 :: (runL d (tellL d s x).1 xs).2)
def lw0 : LW T := ⟨0, []⟩
def workL (d : Int) (ds : List (Deed T)) : LW T := (runL d lw0 ds).1
def toldL (d : Int) (ds : List (Deed T)) : List (TV T) := (runL d lw0 ds).2
/-! Story -/
def moved (p : Int × Int) (h n : Int) : Int × Int := ((p.1 + h) % 2, p.2 + n)
omit [DecidableEq T]
def spotS (s : SW T) (far : Bool) : Int × Int := moved s.stand (b2 far) 0
def thingS (s : SW T) (far : Bool) : Option T := whoAt s.hung (spotS s far)
def bringS (s : SW T) (far : Bool) (p : Int × Int) : SW T := { s with stand := moved p (b2 far) 0 }
def gapS (s : SW T) (far : Bool) (p : Int × Int) : Int × Int := ((p.1 - (spotS s far).1) % 2, p.2 - (spotS s far).2)
def freeS (s : SW T) (far : Bool) (i : Nat) : Bool := (whoAt s.hung ((s.stand.1 + b2 far) % 2, s.stand.2 + (i : Int))).isNone
def nS (s : SW T) (far : Bool) : Nat := firstN (freeS s far) s.hung.length
def wayOk (r number : Int) (size : Nat) (hv : Int) : Bool := (decide (hv > 0) || decide (number ≥ 0)) && decide ((number + hv * r) % (size : Int) = 0)
def wayS (r half number : Int) (size : Nat) : Option (Int × Int) :=
  ((List.range (size + 1)).find? fun (i : Nat) => wayOk r number size (half + (i : Int) * 2)).map fun (i : Nat) => (half + (i : Int) * 2, number)
def wayTo (r : Int) (s : SW T) (far : Bool) (st : Int) (p : Int × Int) : Option (Int × Int) :=
  wayS r (gapS s far p).1 (if st > 0 then (gapS s far p).2 else -(gapS s far p).2) st.natAbs
def ltP (a b : Int × Int) : Bool := decide (a.1 < b.1 ∨ a.1 = b.1 ∧ a.2 < b.2)
def ltW (a b : (Int × Int) × (Int × Int)) : Bool := ltP a.1 b.1 || (decide (a.1 = b.1) && ltP a.2 b.2)
def minW : List ((Int × Int) × (Int × Int)) → Option ((Int × Int) × (Int × Int))
  | [] => none
  | x :: xs => some (xs.foldl (fun a y => if ltW y a then y else a) x)
def waysS (r : Int) (s : SW T) (far : Bool) (st : Int) : List ((Int × Int) × (Int × Int)) := s.hung.filterMap fun q => (wayTo r s far st q.2).map fun w => (w, q.2)
variable [DecidableEq T]
def tellPS (r : Int) (s : SW T) : PD T → SW T × TV T
  | .pull n => ({ s with stand := moved s.stand 0 n }, .bl true)
  | .peg far t => if (getK s.hung t).isSome || (thingS s far).isSome then (s, .bl false) else ({ s with hung := s.hung ++ [(t, spotS s far)] }, .bl true)
  | .hang far t => if (getK s.hung t).isSome then (s, .non) else
      (⟨(s.stand.1, s.stand.2 + (nS s far : Int)), s.hung ++ [(t, ((s.stand.1 + b2 far) % 2, s.stand.2 + (nS s far : Int)))]⟩, .form)
  | .fetch far t => match getK s.hung t with
    | none => (s, .non)
    | some p => (bringS s far p, .form)
  | .walk far st => match minW (waysS r s far st) with
    | none => (s, .non)
    | some w => (bringS s far w.2, .form)
  | .take far => match thingS s far with
    | none => (s, .non)
    | some t => ({ s with hung := delK s.hung t }, .str t)
  | .look far => match thingS s far with
    | none => (s, .non)
    | some t => (s, .str t)
def tellS (r : Int) (s : SW T) : Deed T → SW T × TV T
  | .pl p => tellPS r s p
  | .whn far what p => if thingS s far = what then tellPS r s p else (s, .no)
def runS (r : Int) : SW T → List (Deed T) → SW T × List (TV T)
  | s, [] => (s, [])
  | s, x :: xs => ((runS r (tellS r s x).1 xs).1, (tellS r s x).2 :: (runS r (tellS r s x).1 xs).2)
def sw0 : SW T := ⟨(0, 0), []⟩
def workS (r : Int) (ds : List (Deed T)) : SW T := (runS r sw0 ds).1
def toldS (r : Int) (ds : List (Deed T)) : List (TV T) := (runS r sw0 ds).2
/-! what is told against what is shown -/
omit [DecidableEq T]
def compat : TV T → TV T → Prop
  | .int _, .form => True
  | a, b => a = b ∧ a ≠ .form
/-! reach, bound -/
def reachStep (rh : Int × Int) (p : PD T) : Int × Int := match p with
  | .pull n => (rh.1 + n.natAbs, rh.2)
  | .peg _ _ => (rh.1, rh.2 + 1)
  | .hang _ _ => (rh.1 + rh.2, rh.2 + 1)
  | _ => rh
def reachOf (ds : List (Deed T)) : Int × Int := ds.foldl (fun rh x => reachStep rh x.inner) (0, 0)
def boundOf (ds : List (Deed T)) : Int := 4 * (reachOf ds).1 + 1
def stepOf : PD T → Int
  | .walk _ s => s
  | _ => 1
end
end Rln
end
section
set_option Elab.async false
set_option linter.all false
set_option maxRecDepth 100000
set_option maxHeartbeats 4000000
namespace Rln
open PySem PySem.Spec PyProof.Rows L2
/-! ### heaps that only grow -/
theorem _root_.L2.Same.new {H : Hp} {p : Addr} {o : HO} (h : H p = none) : Same H (upd H p o) := fun b u e => by
  rw [upd_ne (ne_of_none e h)]
  exact e
theorem _root_.L2.Same.put {H H' : Hp} {p : Addr} {o : HO} (e : Same H H') (h : H p = none) : Same H (upd H' p o) := fun b u z => by
  rw [upd_ne (ne_of_none z h)]
  exact e b u z
theorem _root_.L2.Same.sqt {K : PySem.W.Frag} {H H' : Hp} {a : Addr} {xs : List V} (e : Same H H') (h : SqT K H a xs) : SqT K H' a xs := by
  rcases h with (h | ⟨o, h⟩) | h
  · exact .inl (.inl (e _ _ h))
  · exact .inl (.inr ⟨o, e _ _ h⟩)
  · exact .inr h
theorem lcYes {σ : L2.St} {H : Hp} {Q : Bool → Hp → Prop} (h : Q true H) : tYes σ H Q := h
theorem iteFd {A B : Prop} {c : Bool} (hc : c = false) (h : B) : if c = true then A else B := by
  subst hc
  exact iteF h
theorem iteTd {A B : Prop} {c : Bool} (hc : c = true) (h : A) : if c = true then A else B := by
  subst hc
  exact iteT h
/-! ### kinds of plain values -/
def flat4 : V → Bool
  | .non => true
  | .bl _ => true
  | .int _ => true
  | .str _ => true
  | _ => false
def tyN : V → String
  | .non => "NoneType"
  | .bl _ => "bool"
  | .int _ => "int"
  | .str _ => "str"
  | _ => ""
def isI : V → Bool
  | .int _ => true
  | _ => false
def isB : V → Bool
  | .bl _ => true
  | _ => false
def isS : V → Bool
  | .str _ => true
  | _ => false
section
variable {K : PySem.W.Frag} {H : Hp} {v : V} {Q : VK}
theorem ty_flat (h : flat4 v = true) : TyX K H v (.type (tyN v)) := by
  cases v with
  | non => exact .base .non
  | bl b => exact .base (.bl b)
  | int i => exact .base (.int i)
  | str x => exact .base (.str x)
  | _ => cases h
theorem k_int (h : flat4 v = true) : PySem.W.kitOne K (.type (tyN v)) (.type "int") = some (isI v || isB v) := by
  cases v with
  | non => exact kit_ty (by show kitB "NoneType" "int" = some false; decide +kernel)
  | bl b => exact kit_ty (by show kitB "bool" "int" = some true; decide +kernel)
  | int i => exact kit_ty (by show kitB "int" "int" = some true; decide +kernel)
  | str x => exact kit_ty (by show kitB "str" "int" = some false; decide +kernel)
  | _ => cases h
theorem k_bool (h : flat4 v = true) : PySem.W.kitOne K (.type (tyN v)) (.type "bool") = some (isB v) := by
  cases v with
  | non => exact kit_ty (by show kitB "NoneType" "bool" = some false; decide +kernel)
  | bl b => exact kit_ty (by show kitB "bool" "bool" = some true; decide +kernel)
  | int i => exact kit_ty (by show kitB "int" "bool" = some false; decide +kernel)
  | str x => exact kit_ty (by show kitB "str" "bool" = some false; decide +kernel)
  | _ => cases h
theorem k_str (h : flat4 v = true) : PySem.W.kitOne K (.type (tyN v)) (.type "str") = some (isS v) := by
  cases v with
  | non => exact kit_ty (by show kitB "NoneType" "str" = some false; decide +kernel)
  | bl b => exact kit_ty (by show kitB "bool" "str" = some false; decide +kernel)
  | int i => exact kit_ty (by show kitB "int" "str" = some false; decide +kernel)
  | str x => exact kit_ty (by show kitB "str" "str" = some true; decide +kernel)
  | _ => cases h
theorem k_tup (h : flat4 v = true) : PySem.W.kitOne K (.type (tyN v)) (.type "tuple") = some (false) := by
  cases v with
  | non => exact kit_ty (by show kitB "NoneType" "tuple" = some false; decide +kernel)
  | bl b => exact kit_ty (by show kitB "bool" "tuple" = some false; decide +kernel)
  | int i => exact kit_ty (by show kitB "int" "tuple" = some false; decide +kernel)
  | str x => exact kit_ty (by show kitB "str" "tuple" = some false; decide +kernel)
  | _ => cases h
theorem k_tt {n : String} (h : kitB n n = some true := by decide +kernel) : PySem.W.kitOne K (.type n) (.type n) = some true := kit_ty h
/-- a tuple that is read -/
theorem ty_sqt {a : Addr} {xs : List V} (h : SqT K H a xs) : TyX K H (.ref a) (.type "tuple") := by
  rcases h with (h | ⟨o, h⟩) | ⟨o, its, n, h, c, _⟩
  · exact .base (.tup h)
  · exact .fTuple h
  · exact .kTuple h c
end
end Rln
end
section
set_option Elab.async false
set_option linter.all false
set_option maxRecDepth 100000
set_option maxHeartbeats 4000000
namespace Rln
open PySem PySem.Spec PyProof.Rows L2
section
variable {P : Program} {w : World} {K : PySem.W.Frag} {mg : Str → Option Value} {base : Heap}
abbrev N_is_whole : List Str := ["thing"]
theorem sc_is_whole : FnScope N_is_whole ["thing"] (defScope s_is_whole) := ⟨rfl, rfl, rfl, by decide +kernel, rfl, by decide +kernel, by decide +kernel⟩
def spIsWhole : Sp := fun vs H Q _ => ∃ v, vs = [v] ∧ flat4 v = true ∧ Q (.bl (isI v)) H
theorem cal_is_whole (T : Tx K mg) : Cal P w K mg base 1 "is_whole" spIsWhole [] := by
  refine calD T.f_is_whole T.g_is_whole sc_is_whole (fun vs H Q E h => ?_) (fun _ _ _ _ _ _ us hl => match us, hl with | [_], _ => rfl) (fun cdv A outer s H vs Q E hr h => ?_)
  · obtain ⟨v, rfl, _⟩ := h
    rfl
  · obtain ⟨v, rfl, hf, k⟩ := h
    refine ⟨_, (pss_one (ps_ret (pe_and (pe_callB call_isi (by rfl) T.n_isinstance (by decide +kernel) (pa_cons (pv 0) (pa_cons (pe_bltn (v := .ty "int") (by rfl) T.n_int boot_int rfl) pa_nil))) (pe_one (pe_not (pe_callB call_isi (by rfl) T.n_isinstance (by decide +kernel) (pa_cons (pv 0) (pa_cons (pe_bltn (v := .ty "bool") (by rfl) T.n_bool boot_bool rfl) pa_nil)))))))), ?_⟩
    refine ⟨_, rfl, _, _, _, _, _, rfl, .ty _, ty_flat hf, k_int hf, _, rfl, ?_⟩
    cases v with
    | non => exact k
    | str x => exact k
    | int i => exact iteT ⟨_, rfl, _, _, _, _, _, rfl, .ty _, ty_flat hf, k_bool hf, _, rfl, k⟩
    | bl b => exact iteT ⟨_, rfl, _, _, _, _, _, rfl, .ty _, ty_flat hf, k_bool hf, _, rfl, k⟩
    | _ => cases hf
abbrev N_is_length : List Str := ["thing", "most"]
theorem sc_is_length : FnScope N_is_length ["thing", "most"] (defScope s_is_length) := ⟨rfl, rfl, rfl, by decide +kernel, rfl, by decide +kernel, by decide +kernel⟩
def spIsLength : Sp := fun vs H Q _ => ∃ i m : Int, vs = [.int i, .int m] ∧ i ≠ 0 ∧ -m ≤ i ∧ i ≤ m ∧ Q (.bl true) H
theorem cal_is_length (T : Tx K mg) : Cal P w K mg base 2 "is_length" spIsLength [] := by
  refine calD T.f_is_length T.g_is_length sc_is_length (fun vs H Q E h => ?_) (fun _ _ _ _ _ _ us hl => match us, hl with | [_, _], _ => rfl) (fun cdv A outer s H vs Q E hr h => ?_)
  · obtain ⟨v, m, rfl, _⟩ := h
    rfl
  · obtain ⟨i, m, rfl, h0, h1, h2, k⟩ := h
    refine ⟨_, (pss_one (ps_ret (pe_and (C8.pe_c (cal_is_whole T) hr (by decide) (by rfl) (pa_cons (pv 0) pa_nil)) (pe_and (pe_cmpR op_ne (pv 0) pe_int (nomark _)) (pe_one (pe_chain op_le op_le (pe_un un_neg (pv 1)) (pv 0) (pv 1))))))), ?_⟩
    refine ⟨_, rfl, _, rfl, rfl, _, rfl, iteT ?_⟩
    refine ⟨_, rfl, rfl, _, rfl, ?_⟩
    rw [decide_eq_false (by intro e; exact h0 (V.int.inj e))]
    refine iteT ⟨_, rfl, _, rfl, _, rfl, _, _, rfl, rfl, _, rfl, ?_⟩
    rw [decide_eq_true h1]
    refine iteT ⟨_, rfl, _, _, rfl, rfl, ?_⟩
    show Q (.bl (decide (i ≤ m))) H
    rw [decide_eq_true h2]
    exact k
abbrev N_is_thing : List Str := ["thing", "sign"]
theorem sc_is_thing : FnScope N_is_thing ["thing"] (defScope s_is_thing) := ⟨rfl, rfl, rfl, by decide +kernel, rfl, by decide +kernel, by decide +kernel⟩
/-- the law's things -/
def goodT (z : Str) : Prop := z = "a" ∨ z = "sock" ∨ z = "zzzzzzzz" ∨ z = "shirt"
theorem goodT_len {z : Str} (h : goodT z) : 1 ≤ z.length ∧ z.length ≤ 8 := by
  rcases h with rfl | rfl | rfl | rfl <;> exact ⟨by decide +kernel, by decide +kernel⟩
theorem goodT_ok {z : Str} (h : goodT z) : PyData.strOk z = true := by
  rcases h with rfl | rfl | rfl | rfl <;> decide +kernel
theorem goodT_all {z : Str} (h : goodT z) : (z.cps.toList.all fun c => decide (c ∈ ("abcdefghijklmnopqrstuvwxyz" : Str).cps.toList)) = true := by
  rcases h with rfl | rfl | rfl | rfl <;> decide +kernel
theorem goodT_at {z : Str} (h : goodT z) {i : Nat} {c : Nat} (e : z.cps[i]? = some c) : c ∈ ("abcdefghijklmnopqrstuvwxyz" : Str).cps.toList :=
  of_decide_eq_true (List.all_eq_true.mp (goodT_all h) c (by rw [← Array.getElem?_toList] at e; exact List.mem_of_getElem? e))
def spIsThing : Sp := fun vs H Q _ => ∃ z : Str, vs = [.str z] ∧ goodT z ∧ ∀ H', Same H H' → Q (.bl true) H'
theorem cal_is_thing (T : Tx K mg) : Cal P w K mg base 1 "is_thing" spIsThing [] := by
  refine calD T.f_is_thing T.g_is_thing sc_is_thing (fun vs H Q E h => ?_) (fun _ _ _ _ _ _ us hl => match us, hl with | [_], _ => rfl) (fun cdv A outer s H vs Q E hr h => ?_)
  · obtain ⟨z, rfl, _⟩ := h
    rfl
  · obtain ⟨z, rfl, hz, k⟩ := h
    obtain ⟨l1, l2⟩ := goodT_len hz
    have l3 : z.length ≤ sizeLine := Nat.le_trans l2 (by decide)
    refine ⟨_, (pss_cons (ps_if (PW.pt (pw_or (pt_not (pt_val (pe_callB call_isi (by rfl) T.n_isinstance (by decide +kernel) (pa_cons (pv 0) (pa_cons (pe_bltn (v := .ty "str") (by rfl) T.n_str boot_str rfl) pa_nil))))) (pw_or1 (pt_not (pt_chain op_le op_le pe_int (pe_callB call_len (by rfl) T.n_len (by decide +kernel) (pa_cons (pv 0) pa_nil)) (C8.pe_gc (by rfl) T.i_LONGEST_THING)))))) (pss_one (ps_ret pe_bl)) pss_nil)
      (pss_one (ps_ret (pe_callB (cr_all rfl) (by rfl) T.n_all (by decide +kernel) (pa_cons (pe_lc (own := [("sign", 1)]) rfl sc_is_thing.nd (pi_str (pv 0)) (blkOk_by (N := N_is_thing) (sc := defScope s_is_thing) (own := [("sign", 1)]) (by decide +kernel)) (fun _ _ _ _ _ => (pg_name (i := 1) sc_is_thing.nd rfl (Or.inl rfl))) (fun _ _ _ _ _ => pts_nil) (fun _ _ _ _ _ => (pe_cmpR op_in_sign (pv 1) (C8.pe_gc (by rfl) T.i_LETTERS) (by rfl)))) pa_nil))))), ?_⟩
    refine ⟨_, rfl, _, _, _, _, _, rfl, .ty _, ty_flat rfl, k_str rfl, _, rfl, iteF ?_⟩
    refine ⟨_, rfl, _, z.length, rfl, ⟨l3, rfl⟩, _, _, rfl, rfl, _, rfl, ?_⟩
    rw [decide_eq_true (by omega : (1 : Int) ≤ z.length)]
    refine iteT ⟨_, _, rfl, rfl, _, rfl, ?_⟩
    rw [decide_eq_true (by omega : (z.length : Int) ≤ 8)]
    refine iteF ?_
    refine ⟨_, rfl, z, rfl, fun D hD => lc_it walk_str (fun i H' => Same H H' ∧ H' D = some (.lst ((List.replicate i true).map V.bl))) ⟨Same.new hD, upd_same⟩ (fun _ _ _ _ => trivial) ?_ ?_⟩
    · rintro i x H1 H2 hi ⟨e1, hl⟩ ⟨rfl, c, hc, rfl⟩
      refine ⟨rfl, lcYes (iteT ⟨_, rfl, c, _, rfl, rfl, ?_⟩)⟩
      rw [decide_eq_true (goodT_at hz hc)]
      refine ⟨_, hl, ?_, e1.put hD, ?_⟩
      · have : z.cps.size = z.length := rfl
        rw [List.length_map, List.length_replicate]
        exact Nat.lt_of_lt_of_le hi (by omega)
      · rw [upd_same, List.replicate_succ', List.map_append]
        rfl
    · rintro H1 ⟨e1, hl⟩
      refine ⟨_, _, rfl, SqL.of hl, ?_⟩
      have : (List.replicate z.cps.size true).all id = true := by simp
      show Q (.bl ((List.replicate z.cps.size true).all id)) H1
      rw [this]
      exact k H1 e1
abbrev N_is_window : List Str := ["thing"]
theorem sc_is_window : FnScope N_is_window ["thing"] (defScope s_is_window) := ⟨rfl, rfl, rfl, by decide +kernel, rfl, by decide +kernel, by decide +kernel⟩
def wS (far : Bool) : Str := if far then "far" else "near"
def spIsWindow : Sp := fun vs H Q _ => ∃ far : Bool, vs = [.str (wS far)] ∧ Q (.bl true) H
theorem cal_is_window (T : Tx K mg) : Cal P w K mg base 1 "is_window" spIsWindow [] := by
  refine calD T.f_is_window T.g_is_window sc_is_window (fun vs H Q E h => ?_) (fun _ _ _ _ _ _ us hl => match us, hl with | [_], _ => rfl) (fun cdv A outer s H vs Q E hr h => ?_)
  · obtain ⟨z, rfl, _⟩ := h
    rfl
  · obtain ⟨far, rfl, k⟩ := h
    refine ⟨_, (pss_one (ps_ret (pe_and (pe_callB call_isi (by rfl) T.n_isinstance (by decide +kernel) (pa_cons (pv 0) (pa_cons (pe_bltn (v := .ty "str") (by rfl) T.n_str boot_str rfl) pa_nil))) (pe_one (pe_cmpR op_in_seq (pv 0) (pe_glob (v := .ref _) (by rfl) T.g_WINDOWS rfl) (by rfl)))))), ?_⟩
    refine ⟨_, rfl, _, _, _, _, _, rfl, .ty _, ty_flat rfl, k_str rfl, _, rfl, iteT ?_⟩
    refine ⟨_, rfl, _, _, rfl, .inr (T.t_WINDOWS _), rfl, by decide +kernel, ?_⟩
    cases far with
    | true => exact k
    | false => exact k
/-! ### deeds -/
def pdV : PD Str → List V
  | .peg f t => [.str "peg", .str (wS f), .str t]
  | .hang f t => [.str "hang", .str (wS f), .str t]
  | .take f => [.str "take", .str (wS f)]
  | .look f => [.str "look", .str (wS f)]
  | .fetch f t => [.str "fetch", .str (wS f), .str t]
  | .pull n => [.str "pull", .int n]
  | .walk f s => [.str "walk", .str (wS f), .int s]
def pdOk : PD Str → Prop
  | .peg _ t => goodT t
  | .hang _ t => goodT t
  | .fetch _ t => goodT t
  | .pull n => n ≠ 0 ∧ -3 ≤ n ∧ n ≤ 3
  | .walk _ s => s ≠ 0 ∧ -6 ≤ s ∧ s ≤ 6
  | _ => True
def whatV : Option Str → V
  | none => .non
  | some t => .str t
def deedOk : Deed Str → Prop
  | .pl p => pdOk p
  | .whn _ w p => (∀ t, w = some t → goodT t) ∧ pdOk p
def DAt (H : Hp) (v : V) : Deed Str → Prop
  | .pl p => ∃ a, v = .ref a ∧ H a = some (.tup (pdV p))
  | .whn f w p => ∃ a b, v = .ref a ∧ H a = some (.tup [.str "when", .str (wS f), whatV w, .ref b]) ∧ H b = some (.tup (pdV p))
theorem DAt.mono {H H' : Hp} {v : V} {x : Deed Str} (e : Same H H') (h : DAt H v x) : DAt H' v x := by
  cases x with
  | pl p =>
    obtain ⟨a, rfl, h⟩ := h
    exact ⟨a, rfl, e _ _ h⟩
  | whn f w p =>
    obtain ⟨a, b, rfl, h1, h2⟩ := h
    exact ⟨a, b, rfl, e _ _ h1, e _ _ h2⟩
theorem wS_ok (f : Bool) : PyData.strOk (wS f) = true := by cases f <;> decide +kernel
def vD : V → PyData
  | .non => .none
  | .bl b => .bool b
  | .int i => .int i
  | .str x => .str x
  | _ => .none
/-- a plain value whose signs are signs -/
def okV : V → Bool
  | .non => true
  | .bl _ => true
  | .int _ => true
  | .str x => PyData.strOk x
  | _ => false
theorem dp_flat {K : PySem.W.Frag} {H : Hp} {v : V} (h : okV v = true) : Dp K H v (vD v) ∧ (vD v).canLay0 = true ∧ (vD v).depth = 0 := by
  cases v with
  | non => exact ⟨.non, by simp [vD, PyData.canLay0], by simp [vD, PyData.depth]⟩
  | bl b => exact ⟨.bl b, by simp [vD, PyData.canLay0], by simp [vD, PyData.depth]⟩
  | int i => exact ⟨.int i, by simp [vD, PyData.canLay0], by simp [vD, PyData.depth]⟩
  | str x => exact ⟨.str x, by rw [show vD (.str x) = .str x from rfl, PyData.canLay0]; exact h, by simp [vD, PyData.depth]⟩
  | _ => cases h
theorem dp_all {K : PySem.W.Frag} {H : Hp} : ∀ {xs : List V}, xs.all okV = true → DpAll K H xs (xs.map vD) ∧ PyData.canLayAll0 (xs.map vD) = true ∧ PyData.depthAll (xs.map vD) = 0
  | [], _ => ⟨.nil, by simp [PyData.canLayAll0], by simp [PyData.depthAll]⟩
  | x :: xs, h => by
    rw [List.all_cons, Bool.and_eq_true] at h
    obtain ⟨h1, h2, h3⟩ := dp_flat (K := K) (H := H) h.1
    obtain ⟨g1, g2, g3⟩ := dp_all (K := K) (H := H) h.2
    exact ⟨.cons h1 g1, by simp [PyData.canLayAll0, h2, g2], by simp [PyData.depthAll, h3, g3]⟩
/-- a tuple of plain values, as data -/
theorem dp_tup {K : PySem.W.Frag} {H : Hp} {a : Addr} {xs : List V} (h : SqT K H a xs) (ho : xs.all okV = true) : Dp K H (.ref a) (.tuple (xs.map vD)) ∧ SeqAt.shaped (.tuple (xs.map vD)) = true := by
  obtain ⟨g1, g2, g3⟩ := dp_all (K := K) (H := H) ho
  refine ⟨.tup h g1, ?_⟩
  unfold SeqAt.shaped
  rw [Bool.and_eq_true]
  exact ⟨by simp [PyData.canLay0, g2], by simp [PyData.depth, g3]⟩
theorem pd_ok {p : PD Str} (h : pdOk p) : (pdV p).all okV = true := by
  have c : ∀ f, PyData.strOk (wS f) = true := wS_ok
  have e1 : PyData.strOk "peg" = true := by decide +kernel
  have e2 : PyData.strOk "hang" = true := by decide +kernel
  have e3 : PyData.strOk "take" = true := by decide +kernel
  have e4 : PyData.strOk "look" = true := by decide +kernel
  have e5 : PyData.strOk "fetch" = true := by decide +kernel
  have e6 : PyData.strOk "pull" = true := by decide +kernel
  have e7 : PyData.strOk "walk" = true := by decide +kernel
  cases p with
  | peg f t => simp [pdV, okV, e1, c, goodT_ok h]
  | hang f t => simp [pdV, okV, e2, c, goodT_ok h]
  | take f => simp [pdV, okV, e3, c]
  | look f => simp [pdV, okV, e4, c]
  | fetch f t => simp [pdV, okV, e5, c, goodT_ok h]
  | pull n => simp [pdV, okV, e6]
  | walk f s => simp [pdV, okV, e7, c]
/-- the word of a deed -/
def pdW : PD Str → Str
  | .peg _ _ => "peg"
  | .hang _ _ => "hang"
  | .take _ => "take"
  | .look _ => "look"
  | .fetch _ _ => "fetch"
  | .pull _ => "pull"
  | .walk _ _ => "walk"
theorem pdV_cons (p : PD Str) : ∃ r, pdV p = .str (pdW p) :: r := by cases p <;> exact ⟨_, rfl⟩
theorem pd_ne {p : PD Str} : PyData.eqv (.tuple ((pdV p).map vD)) (.tuple []) = false := by cases p <;> simp [pdV, PyData.eqv, PyData.eqvAll]
abbrev N_is_plain_deed : List Str := ["thing"]
theorem sc_is_plain_deed : FnScope N_is_plain_deed ["thing"] (defScope s_is_plain_deed) := ⟨rfl, rfl, rfl, by decide +kernel, rfl, by decide +kernel, by decide +kernel⟩
def spIsPlain : Sp := fun vs H Q _ => ∃ a p, vs = [.ref a] ∧ H a = some (.tup (pdV p)) ∧ pdOk p ∧ ∀ H', Same H H' → Q (.bl true) H'
theorem cal_is_plain_deed (T : Tx K mg) : Cal P w K mg base 3 "is_plain_deed" spIsPlain [] := by
  refine calD T.f_is_plain_deed T.g_is_plain_deed sc_is_plain_deed (fun vs H Q E h => ?_) (fun _ _ _ _ _ _ us hl => match us, hl with | [_], _ => rfl) (fun cdv A outer s H vs Q E hr h => ?_)
  · obtain ⟨a, p, rfl, _⟩ := h
    rfl
  · obtain ⟨a, p, rfl, ha, hp, k⟩ := h
    refine ⟨_, (pss_cons (ps_if (PW.pt (pw_or (pt_not (pt_val (pe_callB call_isi (by rfl) T.n_isinstance (by decide +kernel) (pa_cons (pv 0) (pa_cons (pe_bltn (v := .ty "tuple") (by rfl) T.n_tuple boot_tuple rfl) pa_nil))))) (pw_or (pt_cmpR (op_eqD hr.units) (pv 0) (pe_tup pa_nil) (nomark _)) (pw_or1 (pt_not (pt_val (pe_callB call_isi (by rfl) T.n_isinstance (by decide +kernel) (pa_cons (pe_ix ix_tup (pv 0) pe_int (fun _ _ => rfl)) (pa_cons (pe_bltn (v := .ty "str") (by rfl) T.n_str boot_str rfl) pa_nil))))))))) (pss_one (ps_ret pe_bl)) pss_nil)
      (pss_cons (ps_if (pt_cmpR op_eq (pe_ix ix_tup (pv 0) pe_int (fun _ _ => rfl)) pe_str (nomark _)) (pss_one (ps_ret (pe_and (pe_cmpR op_eq (pe_callB call_len_seq (by rfl) T.n_len PySem.boot_len (pa_cons (pv 0) pa_nil)) pe_int (nomark _)) (pe_one (C8.pe_c (cal_is_length T) hr (by decide) (by rfl) (pa_cons (pe_ix ix_tup (pv 0) pe_int (fun _ _ => rfl)) (pa_cons (C8.pe_gc (by rfl) T.i_GREATEST_PULL) pa_nil))))))) pss_nil)
      (pss_cons (ps_if (PW.pt (pw_or (pt_cmpR op_lt (pe_callB call_len_seq (by rfl) T.n_len PySem.boot_len (pa_cons (pv 0) pa_nil)) pe_int (nomark _)) (pw_or1 (pt_not (pt_val (C8.pe_c (cal_is_window T) hr (by decide) (by rfl) (pa_cons (pe_ix ix_tup (pv 0) pe_int (fun _ _ => rfl)) pa_nil))))))) (pss_one (ps_ret pe_bl)) pss_nil)
      (pss_cons (ps_if (pt_cmpR op_in_seq (pe_ix ix_tup (pv 0) pe_int (fun _ _ => rfl)) (pe_tup (pa_cons pe_str (pa_cons pe_str pa_nil))) (by rfl)) (pss_one (ps_ret (pe_cmpR op_eq (pe_callB call_len_seq (by rfl) T.n_len PySem.boot_len (pa_cons (pv 0) pa_nil)) pe_int (nomark _)))) pss_nil)
      (pss_cons (ps_if (pt_cmpR op_in_seq (pe_ix ix_tup (pv 0) pe_int (fun _ _ => rfl)) (pe_tup (pa_cons pe_str (pa_cons pe_str (pa_cons pe_str pa_nil)))) (by rfl)) (pss_one (ps_ret (pe_and (pe_cmpR op_eq (pe_callB call_len_seq (by rfl) T.n_len PySem.boot_len (pa_cons (pv 0) pa_nil)) pe_int (nomark _)) (pe_one (C8.pe_c (cal_is_thing T) hr (by decide) (by rfl) (pa_cons (pe_ix ix_tup (pv 0) pe_int (fun _ _ => rfl)) pa_nil)))))) pss_nil)
      (pss_one (ps_ret (pe_and (pe_cmpR op_eq (pe_ix ix_tup (pv 0) pe_int (fun _ _ => rfl)) pe_str (nomark _)) (pe_and (pe_cmpR op_eq (pe_callB call_len_seq (by rfl) T.n_len PySem.boot_len (pa_cons (pv 0) pa_nil)) pe_int (nomark _)) (pe_one (C8.pe_c (cal_is_length T) hr (by decide) (by rfl) (pa_cons (pe_ix ix_tup (pv 0) pe_int (fun _ _ => rfl)) (pa_cons (C8.pe_gc (by rfl) T.i_GREATEST_STEP) pa_nil))))))))))))), ?_⟩
    have d := dp_tup (K := K) (SqT.of ha) (pd_ok hp)
    obtain ⟨r, er⟩ := pdV_cons p
    refine ⟨_, rfl, _, _, _, _, _, rfl, .ty _, ty_sqt (SqT.of ha), k_tt, _, rfl, iteF ?_⟩
    refine ⟨_, rfl, by decide, fun q hq => ?_⟩
    have e1 : Same H (upd H q (.tup [])) := Same.new hq
    have ha1 := e1 _ _ ha
    have d1 := dp_tup (K := K) (SqT.of ha1) (pd_ok hp)
    refine ⟨_, _, d1.1, .tup (SqT.of upd_same) .nil, d1.2, rfl, _, rfl, ?_⟩
    rw [pd_ne]
    have w0 : atI (pdV p) 0 = some (.str (pdW p)) := by cases p <;> rfl
    refine iteF ⟨_, rfl, a, _, _, _, rfl, rfl, SqT.of ha1, w0, _, _, _, _, _, rfl, .ty _, ty_flat rfl, k_str rfl, _, rfl, iteF ?_⟩
    generalize upd H q (.tup []) = H1 at e1 ha1 d1
    refine ⟨_, rfl, a, _, _, _, rfl, rfl, SqT.of ha1, w0, rfl, _, rfl, ?_⟩
    have hl : ∀ H2, Same H1 H2 → H2 a = some (.tup (pdV p)) := fun H2 e => e _ _ ha1
    cases p with
    | pull n =>
      refine ⟨_, rfl, a, _, rfl, .inr (SqT.of ha1), rfl, _, rfl, iteT ?_⟩
      refine ⟨_, rfl, a, _, _, _, rfl, rfl, SqT.of ha1, rfl, n, 40, rfl, hp.1, by have := hp.2; omega, by have := hp.2; omega, ?_⟩
      exact k H1 e1
    | peg f t =>
      refine ⟨_, rfl, a, _, rfl, .inr (SqT.of ha1), _, _, rfl, rfl, _, rfl, ?_⟩
      refine ⟨_, rfl, a, _, _, _, rfl, rfl, SqT.of ha1, rfl, f, rfl, _, rfl, iteF ?_⟩
      refine ⟨_, rfl, a, _, _, _, rfl, rfl, SqT.of ha1, rfl, by decide, fun q2 hq2 => ⟨_, _, rfl, .inr (SqT.of upd_same), rfl, by decide, _, rfl, ?_⟩⟩
      have e2 : Same H1 (upd H1 q2 (.tup [.str "take", .str "look"])) := Same.new hq2
      have ha2 := hl _ e2
      have e12 := e1.trans e2
      generalize upd H1 q2 (.tup [.str "take", .str "look"]) = H2 at e2 ha2 e12
      refine iteFd (by decide +kernel) ⟨_, rfl, a, _, _, _, rfl, rfl, SqT.of ha2, rfl, by decide, fun q3 hq3 => ⟨_, _, rfl, .inr (SqT.of upd_same), rfl, by decide, _, rfl, ?_⟩⟩
      have e3 : Same H2 (upd H2 q3 (.tup [.str "peg", .str "hang", .str "fetch"])) := Same.new hq3
      have ha3 := e3 _ _ ha2
      have e13 := e12.trans e3
      generalize upd H2 q3 (.tup [.str "peg", .str "hang", .str "fetch"]) = H3 at e3 ha3 e13
      refine iteTd (by decide +kernel) ⟨_, rfl, a, _, rfl, .inr (SqT.of ha3), rfl, _, rfl, iteT ?_⟩
      exact ⟨_, rfl, a, _, _, _, rfl, rfl, SqT.of ha3, rfl, t, rfl, hp, fun H4 e4 => k H4 (e13.trans e4)⟩
    | hang f t =>
      refine ⟨_, rfl, a, _, rfl, .inr (SqT.of ha1), _, _, rfl, rfl, _, rfl, ?_⟩
      refine ⟨_, rfl, a, _, _, _, rfl, rfl, SqT.of ha1, rfl, f, rfl, _, rfl, iteF ?_⟩
      refine ⟨_, rfl, a, _, _, _, rfl, rfl, SqT.of ha1, rfl, by decide, fun q2 hq2 => ⟨_, _, rfl, .inr (SqT.of upd_same), rfl, by decide, _, rfl, ?_⟩⟩
      have e2 : Same H1 (upd H1 q2 (.tup [.str "take", .str "look"])) := Same.new hq2
      have ha2 := hl _ e2
      have e12 := e1.trans e2
      generalize upd H1 q2 (.tup [.str "take", .str "look"]) = H2 at e2 ha2 e12
      refine iteFd (by decide +kernel) ⟨_, rfl, a, _, _, _, rfl, rfl, SqT.of ha2, rfl, by decide, fun q3 hq3 => ⟨_, _, rfl, .inr (SqT.of upd_same), rfl, by decide, _, rfl, ?_⟩⟩
      have e3 : Same H2 (upd H2 q3 (.tup [.str "peg", .str "hang", .str "fetch"])) := Same.new hq3
      have ha3 := e3 _ _ ha2
      have e13 := e12.trans e3
      generalize upd H2 q3 (.tup [.str "peg", .str "hang", .str "fetch"]) = H3 at e3 ha3 e13
      refine iteTd (by decide +kernel) ⟨_, rfl, a, _, rfl, .inr (SqT.of ha3), rfl, _, rfl, iteT ?_⟩
      exact ⟨_, rfl, a, _, _, _, rfl, rfl, SqT.of ha3, rfl, t, rfl, hp, fun H4 e4 => k H4 (e13.trans e4)⟩
    | fetch f t =>
      refine ⟨_, rfl, a, _, rfl, .inr (SqT.of ha1), _, _, rfl, rfl, _, rfl, ?_⟩
      refine ⟨_, rfl, a, _, _, _, rfl, rfl, SqT.of ha1, rfl, f, rfl, _, rfl, iteF ?_⟩
      refine ⟨_, rfl, a, _, _, _, rfl, rfl, SqT.of ha1, rfl, by decide, fun q2 hq2 => ⟨_, _, rfl, .inr (SqT.of upd_same), rfl, by decide, _, rfl, ?_⟩⟩
      have e2 : Same H1 (upd H1 q2 (.tup [.str "take", .str "look"])) := Same.new hq2
      have ha2 := hl _ e2
      have e12 := e1.trans e2
      generalize upd H1 q2 (.tup [.str "take", .str "look"]) = H2 at e2 ha2 e12
      refine iteFd (by decide +kernel) ⟨_, rfl, a, _, _, _, rfl, rfl, SqT.of ha2, rfl, by decide, fun q3 hq3 => ⟨_, _, rfl, .inr (SqT.of upd_same), rfl, by decide, _, rfl, ?_⟩⟩
      have e3 : Same H2 (upd H2 q3 (.tup [.str "peg", .str "hang", .str "fetch"])) := Same.new hq3
      have ha3 := e3 _ _ ha2
      have e13 := e12.trans e3
      generalize upd H2 q3 (.tup [.str "peg", .str "hang", .str "fetch"]) = H3 at e3 ha3 e13
      refine iteTd (by decide +kernel) ⟨_, rfl, a, _, rfl, .inr (SqT.of ha3), rfl, _, rfl, iteT ?_⟩
      exact ⟨_, rfl, a, _, _, _, rfl, rfl, SqT.of ha3, rfl, t, rfl, hp, fun H4 e4 => k H4 (e13.trans e4)⟩
    | take f =>
      refine ⟨_, rfl, a, _, rfl, .inr (SqT.of ha1), _, _, rfl, rfl, _, rfl, ?_⟩
      refine ⟨_, rfl, a, _, _, _, rfl, rfl, SqT.of ha1, rfl, f, rfl, _, rfl, iteF ?_⟩
      refine ⟨_, rfl, a, _, _, _, rfl, rfl, SqT.of ha1, rfl, by decide, fun q2 hq2 => ⟨_, _, rfl, .inr (SqT.of upd_same), rfl, by decide, _, rfl, ?_⟩⟩
      have e2 : Same H1 (upd H1 q2 (.tup [.str "take", .str "look"])) := Same.new hq2
      have ha2 := hl _ e2
      have e12 := e1.trans e2
      generalize upd H1 q2 (.tup [.str "take", .str "look"]) = H2 at e2 ha2 e12
      refine iteTd (by decide +kernel) ⟨_, rfl, a, _, rfl, .inr (SqT.of ha2), rfl, ?_⟩
      exact k _ e12
    | look f =>
      refine ⟨_, rfl, a, _, rfl, .inr (SqT.of ha1), _, _, rfl, rfl, _, rfl, ?_⟩
      refine ⟨_, rfl, a, _, _, _, rfl, rfl, SqT.of ha1, rfl, f, rfl, _, rfl, iteF ?_⟩
      refine ⟨_, rfl, a, _, _, _, rfl, rfl, SqT.of ha1, rfl, by decide, fun q2 hq2 => ⟨_, _, rfl, .inr (SqT.of upd_same), rfl, by decide, _, rfl, ?_⟩⟩
      have e2 : Same H1 (upd H1 q2 (.tup [.str "take", .str "look"])) := Same.new hq2
      have ha2 := hl _ e2
      have e12 := e1.trans e2
      generalize upd H1 q2 (.tup [.str "take", .str "look"]) = H2 at e2 ha2 e12
      refine iteTd (by decide +kernel) ⟨_, rfl, a, _, rfl, .inr (SqT.of ha2), rfl, ?_⟩
      exact k _ e12
    | walk f s' =>
      refine ⟨_, rfl, a, _, rfl, .inr (SqT.of ha1), _, _, rfl, rfl, _, rfl, ?_⟩
      refine ⟨_, rfl, a, _, _, _, rfl, rfl, SqT.of ha1, rfl, f, rfl, _, rfl, iteF ?_⟩
      refine ⟨_, rfl, a, _, _, _, rfl, rfl, SqT.of ha1, rfl, by decide, fun q2 hq2 => ⟨_, _, rfl, .inr (SqT.of upd_same), rfl, by decide, _, rfl, ?_⟩⟩
      have e2 : Same H1 (upd H1 q2 (.tup [.str "take", .str "look"])) := Same.new hq2
      have ha2 := hl _ e2
      have e12 := e1.trans e2
      generalize upd H1 q2 (.tup [.str "take", .str "look"]) = H2 at e2 ha2 e12
      refine iteFd (by decide +kernel) ⟨_, rfl, a, _, _, _, rfl, rfl, SqT.of ha2, rfl, by decide, fun q3 hq3 => ⟨_, _, rfl, .inr (SqT.of upd_same), rfl, by decide, _, rfl, ?_⟩⟩
      have e3 : Same H2 (upd H2 q3 (.tup [.str "peg", .str "hang", .str "fetch"])) := Same.new hq3
      have ha3 := e3 _ _ ha2
      have e13 := e12.trans e3
      generalize upd H2 q3 (.tup [.str "peg", .str "hang", .str "fetch"]) = H3 at e3 ha3 e13
      refine iteFd (by decide +kernel) ⟨_, rfl, a, _, _, _, rfl, rfl, SqT.of ha3, rfl, rfl, _, rfl, iteTd (by decide +kernel) ?_⟩
      refine ⟨_, rfl, a, _, rfl, .inr (SqT.of ha3), rfl, _, rfl, iteT ?_⟩
      exact ⟨_, rfl, a, _, _, _, rfl, rfl, SqT.of ha3, rfl, s', 6, rfl, hp.1, hp.2.1, hp.2.2, k H3 e13⟩
abbrev N_is_deed : List Str := ["thing"]
theorem sc_is_deed : FnScope N_is_deed ["thing"] (defScope s_is_deed) := ⟨rfl, rfl, rfl, by decide +kernel, rfl, by decide +kernel, by decide +kernel⟩
def spIsDeed : Sp := fun vs H Q _ => ∃ v x, vs = [v] ∧ DAt H v x ∧ deedOk x ∧ ∀ H', Same H H' → Q (.bl true) H'
theorem cal_is_deed (T : Tx K mg) : Cal P w K mg base 4 "is_deed" spIsDeed [] := by
  refine calD T.f_is_deed T.g_is_deed sc_is_deed (fun vs H Q E h => ?_) (fun _ _ _ _ _ _ us hl => match us, hl with | [_], _ => rfl) (fun cdv A outer s H vs Q E hr h => ?_)
  · obtain ⟨v, x, rfl, _⟩ := h
    rfl
  · obtain ⟨v, x, rfl, hx, ho, k⟩ := h
    refine ⟨_, (pss_cons (ps_if (PW.pt (pw_or (pt_not (pt_val (pe_callB call_isi (by rfl) T.n_isinstance (by decide +kernel) (pa_cons (pv 0) (pa_cons (pe_bltn (v := .ty "tuple") (by rfl) T.n_tuple boot_tuple rfl) pa_nil))))) (pw_or (pt_cmpR op_ne (pe_callB call_len_seq (by rfl) T.n_len PySem.boot_len (pa_cons (pv 0) pa_nil)) pe_int (nomark _)) (pw_or (pt_not (pt_val (pe_callB call_isi (by rfl) T.n_isinstance (by decide +kernel) (pa_cons (pe_ix ix_tup (pv 0) pe_int (fun _ _ => rfl)) (pa_cons (pe_bltn (v := .ty "str") (by rfl) T.n_str boot_str rfl) pa_nil))))) (pw_or1 (pt_cmpR op_ne (pe_ix ix_tup (pv 0) pe_int (fun _ _ => rfl)) pe_str (nomark _))))))) (pss_one (ps_ret (C8.pe_c (cal_is_plain_deed T) hr (by decide) (by rfl) (pa_cons (pv 0) pa_nil)))) pss_nil)
      (pss_one (ps_ret (pe_and (C8.pe_c (cal_is_window T) hr (by decide) (by rfl) (pa_cons (pe_ix ix_tup (pv 0) pe_int (fun _ _ => rfl)) pa_nil)) (pe_and (pe_or (pe_cmpR op_isN (pe_ix ix_tup (pv 0) pe_int (fun _ _ => rfl)) pe_non (nomark _)) (pe_one (C8.pe_c (cal_is_thing T) hr (by decide) (by rfl) (pa_cons (pe_ix ix_tup (pv 0) pe_int (fun _ _ => rfl)) pa_nil)))) (pe_one (C8.pe_c (cal_is_plain_deed T) hr (by decide) (by rfl) (pa_cons (pe_ix ix_tup (pv 0) pe_int (fun _ _ => rfl)) pa_nil)))))))), ?_⟩
    cases x with
    | pl p =>
      obtain ⟨a, rfl, ha⟩ := hx
      refine ⟨_, rfl, _, _, _, _, _, rfl, .ty _, ty_sqt (SqT.of ha), k_tt, _, rfl, iteF ?_⟩
      have l4 : decide ((V.int ((pdV p).length : Int)) = V.int 4) = false := by cases p <;> rfl
      refine ⟨_, rfl, a, _, rfl, .inr (SqT.of ha), rfl, _, rfl, iteTd (by rw [l4]; rfl) ?_⟩
      exact ⟨_, rfl, a, p, rfl, ha, ho, k⟩
    | whn f wh p =>
      obtain ⟨a, b, rfl, ha, hb⟩ := hx
      refine ⟨_, rfl, _, _, _, _, _, rfl, .ty _, ty_sqt (SqT.of ha), k_tt, _, rfl, iteF ?_⟩
      refine ⟨_, rfl, a, _, rfl, .inr (SqT.of ha), rfl, _, rfl, iteF ?_⟩
      refine ⟨_, rfl, a, _, _, _, rfl, rfl, SqT.of ha, rfl, _, _, _, _, _, rfl, .ty _, ty_flat rfl, k_str rfl, _, rfl, iteF ?_⟩
      refine ⟨_, rfl, a, _, _, _, rfl, rfl, SqT.of ha, rfl, rfl, _, rfl, iteFd (by decide +kernel) ?_⟩
      refine ⟨_, rfl, a, _, _, _, rfl, rfl, SqT.of ha, rfl, f, rfl, _, rfl, iteT ?_⟩
      cases wh with
      | none =>
        refine ⟨_, rfl, a, _, _, _, rfl, rfl, SqT.of ha, rfl, rfl, _, rfl, iteT ⟨_, rfl, iteT ?_⟩⟩
        exact ⟨_, rfl, a, _, _, _, rfl, rfl, SqT.of ha, rfl, b, p, rfl, hb, ho.2, k⟩
      | some z =>
        refine ⟨_, rfl, a, _, _, _, rfl, rfl, SqT.of ha, rfl, rfl, _, rfl, iteF ?_⟩
        refine ⟨_, rfl, a, _, _, _, rfl, rfl, SqT.of ha, rfl, z, rfl, ho.1 z rfl, fun H1 e1 => ⟨_, rfl, iteT ?_⟩⟩
        exact ⟨_, rfl, a, _, _, _, rfl, rfl, SqT.of (e1 _ _ ha), rfl, b, p, rfl, e1 _ _ hb, ho.2, fun H2 e2 => k H2 (e1.trans e2)⟩
/-! ### whole numbers -/
abbrev N_common_divisor : List Str := ["one", "other"]
theorem sc_common_divisor : FnScope N_common_divisor ["one", "other"] (defScope s_common_divisor) := ⟨rfl, rfl, rfl, by decide +kernel, rfl, by decide +kernel, by decide +kernel⟩
def spGcd : Sp := fun vs H Q _ => ∃ i j : Int, vs = [.int i, .int j] ∧ Q (.int (Int.gcd i j : Nat)) H
theorem cal_common_divisor (T : Tx K mg) : Cal P w K mg base 1 "common_divisor" spGcd [] := by
  refine calD T.f_common_divisor T.g_common_divisor sc_common_divisor (fun vs H Q E h => ?_) (fun _ _ _ _ _ _ us hl => match us, hl with | [_, _], _ => rfl) (fun cdv A outer s H vs Q E hr h => ?_)
  · obtain ⟨i, j, rfl, _⟩ := h
    rfl
  · obtain ⟨i, j, rfl, k⟩ := h
    refine ⟨_, (pss_cons (ps_par (i := 0) (j := 1) (by rfl) sc_common_divisor.nd rfl rfl (by decide) rfl rfl (pa_cons (pe_callB call_abs (by rfl) T.n_abs (by decide +kernel) (pa_cons (pv 0) pa_nil)) (pa_cons (pe_callB call_abs (by rfl) T.n_abs (by decide +kernel) (pa_cons (pv 1) pa_nil)) pa_nil)) (by rfl))
      (pss_cons (ps_while PassesOwn.never (pt_cmpR op_ne (pv 1) pe_int (nomark _)) (pss_one (ps_par (i := 0) (j := 1) (by rfl) sc_common_divisor.nd rfl rfl (by decide) rfl rfl (pa_cons (pv 1) (pa_cons (pe_op op_mod (pv 0) (pv 1)) pa_nil)) (by rfl))))
      (pss_one (ps_ret (pv 0))))), ?_⟩
    refine ⟨_, rfl, _, rfl, _, rfl, _, rfl, _, _, rfl, ?_⟩
    refine while_by (fun σ' H' => H' = H ∧ ∃ a b : Nat, σ' = [some (.int a), some (.int b)] ∧ Nat.gcd a b = Int.gcd i j) (fun σ' _ => match σ' with | [_, some (.int y)] => y.toNat | _ => 0) ⟨rfl, i.natAbs, j.natAbs, ?_, rfl⟩ ?_ ?_
    · have ei : (if i < 0 then -i else i) = (i.natAbs : Int) := by split <;> omega
      have ej : (if j < 0 then -j else j) = (j.natAbs : Int) := by split <;> omega
      rw [ei, ej]
      rfl
    · rintro σ' H' ⟨rfl, a, b, rfl, hg⟩
      refine ⟨_, rfl, rfl, _, rfl, ?_⟩
      by_cases hb : b = 0
      · subst hb
        refine iteFd (by decide) ⟨_, rfl, ?_⟩
        rw [Nat.gcd_zero_right] at hg
        rw [hg]
        exact k
      · refine iteTd (by rw [decide_eq_false (by intro e; have := V.int.inj e; omega)]; rfl) ?_
        refine ⟨_, rfl, _, rfl, _, rfl, _, _, rfl, rfl, by show (0 : Int) < b; omega, _, _, rfl, ⟨rfl, b, a % b, rfl, ?_⟩, ?_⟩
        · rw [← hg, Nat.gcd_comm, ← Nat.gcd_rec, Nat.gcd_comm]
        · show ((a : Int) % (b : Int)).toNat < (b : Int).toNat
          have := Nat.mod_lt a (Nat.pos_of_ne_zero hb)
          omega
    · rintro σ' H' Q1 Q2 hq ⟨v, h1, h2, v2, h3, h4⟩
      exact ⟨v, h1, h2, v2, h3, hq _ _ h4⟩
abbrev N_common_multiple : List Str := ["one", "other"]
theorem sc_common_multiple : FnScope N_common_multiple ["one", "other"] (defScope s_common_multiple) := ⟨rfl, rfl, rfl, by decide +kernel, rfl, by decide +kernel, by decide +kernel⟩
def spLcm : Sp := fun vs H Q _ => ∃ i j : Int, vs = [.int i, .int j] ∧ 0 < i ∧ i < 1000 ∧ 0 < j ∧ j < 1000 ∧ Q (.int (i * j / (Int.gcd i j : Nat))) H
theorem cal_common_multiple (T : Tx K mg) : Cal P w K mg base 2 "common_multiple" spLcm [] := by
  refine calD T.f_common_multiple T.g_common_multiple sc_common_multiple (fun vs H Q E h => ?_) (fun _ _ _ _ _ _ us hl => match us, hl with | [_, _], _ => rfl) (fun cdv A outer s H vs Q E hr h => ?_)
  · obtain ⟨i, j, rfl, _⟩ := h
    rfl
  · obtain ⟨i, j, rfl, h1, h2, h3, h4, k⟩ := h
    refine ⟨_, (pss_one (ps_ret (pe_op op_fdiv (pe_op op_mul (pv 0) (pv 1)) (C8.pe_c (cal_common_divisor T) hr (by decide) (by rfl) (pa_cons (pv 0) (pa_cons (pv 1) pa_nil)))))), ?_⟩
    have g1 : 0 < Int.gcd i j := Int.gcd_pos_of_ne_zero_left _ (by omega)
    have g2 : (Int.gcd i j : Int) ≤ i := Int.le_of_dvd h1 (Int.gcd_dvd_left ..)
    exact ⟨_, rfl, _, rfl, _, _, rfl, rfl, .inl ⟨by omega, by omega⟩, _, rfl, _, rfl, i, j, rfl, _, _, rfl, rfl, ⟨by omega, by omega⟩, k⟩
end
end Rln
end
section
set_option Elab.async false
set_option linter.all false
set_option maxRecDepth 100000
set_option maxHeartbeats 4000000
namespace L2
open PySem PySem.Spec PyProof.Rows
section
variable {X : Cx}
theorem ints_dp {K : PySem.W.Frag} {H : Hp} : ∀ ns : List Int, DpAll K H (ns.map V.int) (ns.map PyData.int)
  | [] => .nil
  | n :: ns => .cons (.int n) (ints_dp ns)
theorem ints_alike (ns : List Int) : PySem.W.AlikeAll (ns.map PyData.int) := by
  refine ⟨fun x hx y hy => ?_, fun x hx => ?_⟩
  · obtain ⟨i, _, rfl⟩ := List.mem_map.mp hx
    obtain ⟨j, _, rfl⟩ := List.mem_map.mp hy
    simp [PySem.W.alike]
  · obtain ⟨i, _, rfl⟩ := List.mem_map.mp hx
    intro e
    cases e
theorem ints_depth : ∀ ns : List Int, PyData.depthAll (ns.map PyData.int) = 0
  | [] => by simp [PyData.depthAll]
  | n :: ns => by simp [PyData.depthAll, PyData.depth, ints_depth ns]
/-- min(xs, default=None) of a list of ints -/
def rMinD (K : PySem.W.Frag) : List V → List V → Hp → VK → Prop := fun vs zs H Q => ∃ (a : Addr) (ns : List Int), vs = [.ref a] ∧ zs = [.non] ∧ SqL K H a (ns.map V.int) ∧
  (ns = [] → Q .non H) ∧ ∀ n r, ns = n :: r → Q (.int (r.foldl min n)) H
theorem crk_minD (hc : X.calm = true) (hu : X.A.units + 64 < cLine) : CallRK X (.builtin "min") ["default"] (rMinD X.K) := by
  intro pins s σ H vs zs us ws Q I rv rz h
  obtain ⟨a, ns, rfl, rfl, hs, q0, q1⟩ := h
  obtain ⟨its, ri, hl, _⟩ := I.list hs
  obtain ⟨as, hr⟩ := Dp.readsAll I _ _ _ (ints_dp ns) ri
  cases rv with
  | cons r1 r2 =>
  cases r2
  cases r1
  cases rz with
  | cons z1 z2 =>
  cases z2
  cases z1
  refine PySem.W.min_list_default (I.ok.hd hc) hl.isList (by simpa using hr) (ints_alike ns) (by rw [ints_depth]; omega) (fun e h' tk hk => ?_) fun y ys i v h' tk bs e hv r hk => ?_
  · exact ⟨.non, H, I.kept hk, rfl, q0 (by simpa using e)⟩
  · cases ns with
    | nil => cases e
    | cons n r0 =>
      rw [List.map_cons] at e
      injection e with e1 e2
      subst e1 e2
      rw [PySem.W.minD_ints] at r
      cases r with
      | int _ t => exact ⟨.int _, H, I.kept hk, ⟨t, rfl⟩, q1 n r0 rfl⟩
/-- min(xs) of alike data: an item whose data is the least -/
def rMinW (K : PySem.W.Frag) : List V → Hp → VK → Prop := fun vs H Q => ∃ (a : Addr) (xs : List V) (d : PyData) (ds : List PyData), vs = [.ref a] ∧ SqL K H a xs ∧ DpAll K H xs (d :: ds) ∧ PySem.W.AlikeAll (d :: ds) ∧
  (∀ z ∈ d :: ds, z.canLay0 = true) ∧ PyData.depthAll (d :: ds) ≤ 30 ∧ ∀ (i : Nat) x, xs[i]? = some x → (d :: ds)[i]? = some (PySem.W.minD d ds) → Q x H
theorem cr_minW (hc : X.calm = true) (hu : X.A.units + 64 < cLine) : CallR X (.builtin "min") (rMinW X.K) := by
  intro pins s σ H vs us Q I rv h
  obtain ⟨a, xs, d, ds, rfl, hs, hd, al, cl, dp, q⟩ := h
  obtain ⟨its, ri, hl, _⟩ := I.list hs
  obtain ⟨as, hr⟩ := Dp.readsAll I _ _ _ hd ri
  rw [Vals.ref1 rv]
  refine PySem.W.min_list_data (I.ok.hd hc) hl.isList (by simpa using hr) al (by omega) fun i v h' tk bs hv r hk => ?_
  have hv' : its[i]? = some v := by simpa using hv
  obtain ⟨bs2, r2, hlt, hm, _⟩ := PySem.W.readsAll_at hr i v hv'
  have e : (d :: ds).getD i .none = PySem.W.minD d ds := PySem.SeqAt.plain_unique _ _ _ _ _ (PyData.plain_of_canLay0 _ (cl _ hm)) (PySem.W.reads_keeps hk r2) r
  have hx : ∃ x, xs[i]? = some x ∧ RelV x v := by
    have hlen := ri.length
    have h1 : i < xs.length := by rw [hlen]; exact (List.getElem?_eq_some_iff.mp hv').1
    obtain ⟨u, h2, h3⟩ := ri.get (List.getElem?_eq_getElem h1)
    rw [hv'] at h2
    cases h2
    exact ⟨_, List.getElem?_eq_getElem h1, h3⟩
  obtain ⟨x, hx, rx⟩ := hx
  refine ⟨x, H, I.kept hk, rx, q i x hx ?_⟩
  rw [List.getElem?_eq_getElem hlt, ← e, List.getD_eq_getElem?_getD, List.getElem?_eq_getElem hlt]
  rfl
end
end L2
end
section
set_option Elab.async false
set_option linter.all false
set_option maxRecDepth 100000
set_option maxHeartbeats 4000000
namespace Rln
open PySem PySem.Spec PyProof.Rows L2
/-- all but x stands -/
def Sx (x : Addr) (H H' : Hp) : Prop := ∀ b u, b ≠ x → H b = some u → H' b = some u
theorem Sx.trans {x : Addr} {A B C : Hp} (h : Sx x A B) (g : Sx x B C) : Sx x A C := fun b u n e => g b u n (h b u n e)
theorem Same.sx {x : Addr} {A B : Hp} (h : Same A B) : Sx x A B := fun b u _ e => h b u e
theorem Sx.put {x : Addr} {A B : Hp} {o : HO} (h : Sx x A B) : Sx x A (upd B x o) := fun b u n e => by
  rw [upd_ne n]
  exact h b u n e
theorem Sx.new {x : Addr} {A B : Hp} {p : Addr} {o : HO} (h : Sx x A B) (hp : B p = none) : Sx x A (upd B p o) := fun b u n e => by
  rw [upd_ne (ne_of_none (h b u n e) hp)]
  exact h b u n e
/-- what a new instance's making keeps -/
theorem Sx.made {x dx : Addr} {A B : Hp} {o o' : HO} (h : Sx x (upd (upd A dx o) x o') B) (hx : A x = none) (hd : A dx = none) : Same A B := fun b u e => by
  have n1 : b ≠ x := ne_of_none e hx
  have n2 : b ≠ dx := ne_of_none e hd
  exact h b u n1 (by rw [upd_ne n1, upd_ne n2]; exact e)
def sm (i : Int) : Prop := -(2 ^ 40) < i ∧ i < 2 ^ 40
/-- a Form -/
def FormAt (K : PySem.W.Frag) (H : Hp) (v : V) : Prop := ∃ f dx r a b q, v = .ref f ∧ H f = some (.ins (cForm K) dx [("row", .ref r)]) ∧ H r = some (.tup [.int a, .int b, .int q]) ∧ sm a ∧ sm b ∧ sm q
theorem FormAt.mono {K : PySem.W.Frag} {H H' : Hp} {v : V} (e : Same H H') (h : FormAt K H v) : FormAt K H' v := by
  obtain ⟨f, dx, r, a, b, q, rfl, h1, h2, h3⟩ := h
  exact ⟨f, dx, r, a, b, q, rfl, e _ _ h1, e _ _ h2, h3⟩
theorem sm_div {a g : Int} (h : sm a) (hg : 0 < g) : sm (a / g) := by
  have h1 := h.1
  have h2 := h.2
  have e1 : a / g * g ≤ a := Int.ediv_mul_le a (by omega)
  have e2 : a < (a / g + 1) * g := Int.lt_ediv_add_one_mul_self a hg
  constructor
  · rcases Int.lt_or_le (a / g) 0 with z | z
    · have : (a / g + 1) * g ≤ (a / g + 1) * 1 := Int.mul_le_mul_of_nonpos_left (by omega) (by omega)
      omega
    · have : (0 : Int) < 2 ^ 40 := by decide
      omega
  · rcases Int.lt_or_le (a / g) 0 with z | z
    · have : (0 : Int) < 2 ^ 40 := by decide
      omega
    · have : a / g * 1 ≤ a / g * g := Int.mul_le_mul_of_nonneg_left (by omega) z
      omega
section
variable {P : Program} {w : World} {K : PySem.W.Frag} {mg : Str → Option Value} {base : Heap}
abbrev N_Form_init : List Str := ["self", "a", "b", "q", "common"]
theorem sc_Form_init : FnScope N_Form_init ["self", "a", "b", "q"] (defScope s_Form_init) := ⟨rfl, rfl, rfl, by decide +kernel, rfl, by decide +kernel, by decide +kernel⟩
def spFormI (K : PySem.W.Frag) : Sp := fun vs H Q _ => ∃ x dx a b q, vs = [.ref x, .int a, .int b, .int q] ∧ H x = some (.ins (cForm K) dx []) ∧ sm a ∧ sm b ∧ 0 < q ∧ q < 2 ^ 20 ∧
  ∀ H', Sx x H H' → FormAt K H' (.ref x) → Q .non H'
theorem body_Form_init (T : Tx K mg) : BodyOk P w K mg base "Form.__init__" s_Form_init N_Form_init (He.fAd K ("Form", some "__init__")) 2 (spFormI K) := fun cdv A outer s H vs Q E hr h => by
  obtain ⟨x, dx, a, b, q, rfl, hx, ha, hb, q0, q1, k⟩ := h
  refine ⟨_, (pss_cons (ps_if (PW.pt (pw_or (pt_not (pt_val (C8.pe_c (cal_is_whole T) hr (by decide) (by rfl) (pa_cons (pv 1) pa_nil)))) (pw_or (pt_not (pt_val (C8.pe_c (cal_is_whole T) hr (by decide) (by rfl) (pa_cons (pv 2) pa_nil)))) (pw_or (pt_not (pt_val (C8.pe_c (cal_is_whole T) hr (by decide) (by rfl) (pa_cons (pv 3) pa_nil)))) (pw_or1 (pt_cmpR op_lt (pv 3) pe_int (nomark _))))))) pss_never pss_nil)
      (pss_cons (ps_set (i := 4) sc_Form_init.nd rfl (Or.inl rfl) (C8.pe_c (cal_common_divisor T) hr (by decide) (by rfl) (pa_cons (C8.pe_c (cal_common_divisor T) hr (by decide) (by rfl) (pa_cons (pv 1) (pa_cons (pv 2) pa_nil))) (pa_cons (pv 3) pa_nil))))
      (pss_one (ps_fld (pv 0) (pe_tup (pa_cons (pe_op op_fdiv (pv 1) (pv 4)) (pa_cons (pe_op op_fdiv (pv 2) (pv 4)) (pa_cons (pe_op op_fdiv (pv 3) (pv 4)) pa_nil)))) rfl)))), ?_⟩
  refine ⟨_, rfl, _, rfl, rfl, _, rfl, iteF ?_⟩
  refine ⟨_, rfl, _, rfl, rfl, _, rfl, iteF ?_⟩
  refine ⟨_, rfl, _, rfl, rfl, _, rfl, iteF ?_⟩
  refine ⟨_, rfl, _, _, rfl, rfl, _, rfl, ?_⟩
  rw [decide_eq_false (by omega : ¬ q < 1)]
  refine iteF ?_
  refine ⟨_, rfl, _, rfl, _, _, rfl, _, rfl, _, _, rfl, ?_⟩
  have g1 : 0 < Int.gcd (Int.gcd a b : Nat) q := Int.gcd_pos_of_ne_zero_right _ (by omega)
  have g2 : (Int.gcd (Int.gcd a b : Nat) q : Int) ≤ q := Int.le_of_dvd q0 (Int.gcd_dvd_right ..)
  have g3 : (0 : Int) < (Int.gcd (Int.gcd a b : Nat) q : Int) := by omega
  generalize (Int.gcd (Int.gcd a b : Nat) q : Int) = g at g1 g2 g3
  have gg : 0 < g ∧ g < 1073741824 := ⟨g3, by omega⟩
  refine ⟨_, rfl, _, rfl, _, _, rfl, rfl, gg, _, rfl, _, rfl, _, _, rfl, rfl, gg, _, rfl, _, rfl, _, _, rfl, rfl, gg, by show 3 ≤ sizeLine; decide, fun r hr' => ?_⟩
  refine ⟨_, rfl, x, _, dx, [], rfl, ?_, T.c_Form, T.na_Form_row, by decide, ?_⟩
  · rw [upd_ne (ne_of_none hx hr')]
    exact hx
  · refine k _ ((fun b u n e => by rw [upd_ne n, upd_ne (ne_of_none e hr')]; exact e) : Sx x H _) ⟨x, dx, r, _, _, _, rfl, upd_same, ?_, sm_div ha g3, sm_div hb g3, sm_div (show sm q from ⟨by omega, by omega⟩) g3⟩
    rw [upd_ne (Ne.symm (ne_of_none hx hr')), upd_same]
theorem mak_Form1 (T : Tx K mg) : Mak P w K mg base 3 "Form" (cForm K) (spFormI K) [.int 0, .int 1] :=
  makDd 2 0 T.f_Form_init (by decide) rfl T.mk_Form T.g_Form sc_Form_init (fun vs H Q E h => by obtain ⟨x, dx, a, b, q, rfl, _⟩ := h; rfl)
    (fun _ _ _ _ _ _ _ us its h1 h2 => match us, its, h1, h2 with | [_, _], [_, _], _, _ => ⟨_, rfl, rfl⟩) (body_Form_init T)
end
section
variable {P : Program} {w : World} {K : PySem.W.Frag} {mg : Str → Option Value} {base : Heap}
theorem mak_Form2 (T : Tx K mg) : Mak P w K mg base 3 "Form" (cForm K) (spFormI K) [.int 1] :=
  makDd 3 1 T.f_Form_init (by decide) rfl T.mk_Form T.g_Form sc_Form_init (fun vs H Q E h => by obtain ⟨x, dx, a, b, q, rfl, _⟩ := h; rfl)
    (fun _ _ _ _ _ _ _ us its h1 h2 => match us, its, h1, h2 with | [_, _, _], [_, _], _, _ => ⟨_, rfl, rfl⟩) (body_Form_init T)
theorem mak_Form3 (T : Tx K mg) : Mak P w K mg base 3 "Form" (cForm K) (spFormI K) [] :=
  makDd 4 2 T.f_Form_init (by decide) rfl T.mk_Form T.g_Form sc_Form_init (fun vs H Q E h => by obtain ⟨x, dx, a, b, q, rfl, _⟩ := h; rfl)
    (fun _ _ _ _ _ _ _ us its h1 h2 => match us, its, h1, h2 with | [_, _, _, _], [_, _], _, _ => ⟨_, rfl, rfl⟩) (body_Form_init T)
end
end Rln
end
section
set_option Elab.async false
set_option linter.all false
set_option maxRecDepth 100000
set_option maxHeartbeats 4000000
namespace Rln
open PySem PySem.Spec PyProof.Rows L2
/-- all but p and h stands -/
def Sx2 (p h : Addr) (H H' : Hp) : Prop := ∀ b u, b ≠ p → b ≠ h → H b = some u → H' b = some u
theorem Sx2.trans {p h : Addr} {A B C : Hp} (a : Sx2 p h A B) (g : Sx2 p h B C) : Sx2 p h A C := fun b u n m e => g b u n m (a b u n m e)
theorem Same.sx2 {p h : Addr} {A B : Hp} (e : Same A B) : Sx2 p h A B := fun b u _ _ z => e b u z
theorem Sx2.putP {p h : Addr} {A B : Hp} {o : HO} (e : Sx2 p h A B) : Sx2 p h A (upd B p o) := fun b u n m z => by
  rw [upd_ne n]
  exact e b u n m z
theorem Sx2.putH {p h : Addr} {A B : Hp} {o : HO} (e : Sx2 p h A B) : Sx2 p h A (upd B h o) := fun b u n m z => by
  rw [upd_ne m]
  exact e b u n m z
theorem Sx2.refl {p h : Addr} {A : Hp} : Sx2 p h A A := fun _ _ _ _ z => z
theorem Sx2.sqt {K : PySem.W.Frag} {p h : Addr} {H H' : Hp} {a : Addr} {xs : List V} (e : Sx2 p h H H') (np : a ≠ p) (nh : a ≠ h) (s : SqT K H a xs) : SqT K H' a xs := by
  rcases s with (s | ⟨o, s⟩) | s
  · exact .inl (.inl (e _ _ np nh s))
  · exact .inl (.inr ⟨o, e _ _ np nh s⟩)
  · exact .inr s
theorem _root_.L2.Same.add {H H' : Hp} {p : Addr} {o : HO} (e : Same H H') (h : H' p = none) : Same H (upd H' p o) := fun b u z => by
  rw [upd_ne (ne_of_none (e b u z) h)]
  exact e b u z
def hungV (l : List (Str × Int)) : List (Key × V) := l.map fun q => (Sum.inr q.1, V.int q.2)
/-- a LineWork at p, its dict at h -/
def LWAt (K : PySem.W.Frag) (H : Hp) (p h : Addr) (d : Int) (s : LW Str) : Prop :=
  ∃ dx n, H p = some (.ins (cLW K) dx [("half", .int d), ("stand", .int s.stand), ("hung", .ref h), ("lengths", .int n)]) ∧ H h = some (.dK (hungV s.hung))
/-- the instance alone -/
def LWI (K : PySem.W.Frag) (H : Hp) (p h : Addr) (d : Int) (s : LW Str) : Prop :=
  ∃ dx n, H p = some (.ins (cLW K) dx [("half", .int d), ("stand", .int s.stand), ("hung", .ref h), ("lengths", .int n)])
theorem LWAt.i {K : PySem.W.Frag} {H : Hp} {p h : Addr} {d : Int} {s : LW Str} (L : LWAt K H p h d s) : LWI K H p h d s := by
  obtain ⟨dx, n, h1, h2⟩ := L
  exact ⟨dx, n, h1⟩
theorem LWI.mono {K : PySem.W.Frag} {H H' : Hp} {p h : Addr} {d : Int} {s : LW Str} (e : Same H H') (L : LWI K H p h d s) : LWI K H' p h d s := by
  obtain ⟨dx, n, h1⟩ := L
  exact ⟨dx, n, e _ _ h1⟩
theorem LWAt.ne {K : PySem.W.Frag} {H : Hp} {p h : Addr} {d : Int} {s : LW Str} (L : LWAt K H p h d s) : h ≠ p := by
  obtain ⟨dx, n, h1, h2⟩ := L
  exact ne_of h2 h1 (by intro z; cases z)
theorem LWAt.mono {K : PySem.W.Frag} {H H' : Hp} {p h : Addr} {d : Int} {s : LW Str} (e : Same H H') (L : LWAt K H p h d s) : LWAt K H' p h d s := by
  obtain ⟨dx, n, h1, h2⟩ := L
  exact ⟨dx, n, e _ _ h1, e _ _ h2⟩
/-- what the line keeps -/
structure LWOkB (D d : Int) (s : LW Str) : Prop where
  d1 : 1 ≤ d
  d2 : d < D
  s1 : 0 ≤ s.stand
  s2 : s.stand < 2 * d
  nd : (s.hung.map (·.1)).Nodup
  pl : (s.hung.map (·.2)).Nodup
  gd : ∀ q ∈ s.hung, goodT q.1 ∧ 0 ≤ q.2 ∧ q.2 < 2 * d
abbrev LWOk (d : Int) (s : LW Str) : Prop := LWOkB (2 ^ 16) d s
theorem valV_hung (t : Str) : ∀ l : List (Str × Int), valV (hungV l) (Sum.inr t) = (getK l t).map V.int
  | [] => rfl
  | q :: l => by
    have ih := valV_hung t l
    unfold valV hungV getK at *
    rw [List.map_cons, List.find?_cons, List.find?_cons]
    by_cases e : q.1 = t
    · simp [e]
    · simp only [Sum.inr.injEq, e, decide_false]
      exact ih
section
variable {P : Program} {w : World} {K : PySem.W.Frag} {mg : Str → Option Value} {base : Heap}
abbrev N_LineWork_spot_at : List Str := ["self", "window"]
theorem sc_LineWork_spot_at : FnScope N_LineWork_spot_at ["self", "window"] (defScope s_LineWork_spot_at) := ⟨rfl, rfl, rfl, by decide +kernel, rfl, by decide +kernel, by decide +kernel⟩
def spSpotL (K : PySem.W.Frag) : Sp := fun vs H Q _ => ∃ p h d s far, vs = [.ref p, .str (wS far)] ∧ LWI K H p h d s ∧ 1 ≤ d ∧ Q (.int (spotL d s far)) H
theorem met_spotL (T : Tx K mg) : Met P w K mg base 1 (cLW K) "spot_at" (spSpotL K) [] := by
  refine metD T.f_LineWork_spot_at T.c_LineWork T.m_LineWork_spot_at sc_LineWork_spot_at (fun vs H Q E h => ?_) (fun _ _ _ _ _ _ us hl => match us, hl with | [_, _], _ => rfl) (fun cdv A outer s H vs Q E hr h => ?_)
  · obtain ⟨p, h, d, s, far, rfl, _⟩ := h
    rfl
  · obtain ⟨p, h, d, s, far, rfl, ⟨dx, n, hp⟩, d1, k⟩ := h
    refine ⟨_, (pss_one (ps_ret (pe_op op_mod (pe_op op_add (pe_fld (pv 0) rfl) (pe_ifExp (pt_cmpR op_eq (pv 1) pe_str (nomark _)) (pe_fld (pv 0) rfl) pe_int)) (pe_op op_mul pe_int (pe_fld (pv 0) rfl))))), ?_⟩
    have last : ∀ x : Int, x = (if far then d else 0) → (∃ i j : Int, V.int s.stand = .int i ∧ V.int x = .int j ∧ Q (.int ((i + j) % (2 * d))) H) := fun x e => ⟨_, _, rfl, rfl, by
      subst e
      exact k⟩
    refine ⟨_, rfl, p, _, dx, _, _, rfl, hp, T.c_LineWork, T.na_LineWork_stand, rfl, ?_⟩
    cases far with
    | true =>
      refine ⟨_, rfl, rfl, _, rfl, iteTd (by decide +kernel) ⟨_, rfl, p, _, dx, _, _, rfl, hp, T.c_LineWork, T.na_LineWork_half, rfl, _, _, rfl, rfl, ?_⟩⟩
      exact ⟨_, rfl, p, _, dx, _, _, rfl, hp, T.c_LineWork, T.na_LineWork_half, rfl, _, _, rfl, rfl, .inl ⟨by decide, by decide⟩, _, _, rfl, rfl, by show (0 : Int) < 2 * d; omega, k⟩
    | false =>
      refine ⟨_, rfl, rfl, _, rfl, iteFd (by decide +kernel) ⟨_, _, rfl, rfl, ?_⟩⟩
      exact ⟨_, rfl, p, _, dx, _, _, rfl, hp, T.c_LineWork, T.na_LineWork_half, rfl, _, _, rfl, rfl, .inl ⟨by decide, by decide⟩, _, _, rfl, rfl, by show (0 : Int) < 2 * d; omega, k⟩
abbrev N_LineWork_shift : List Str := ["self", "number"]
theorem sc_LineWork_shift : FnScope N_LineWork_shift ["self", "number"] (defScope s_LineWork_shift) := ⟨rfl, rfl, rfl, by decide +kernel, rfl, by decide +kernel, by decide +kernel⟩
def spShift (K : PySem.W.Frag) : Sp := fun vs H Q _ => ∃ p h d s n, vs = [.ref p, .int n] ∧ LWAt K H p h d s ∧ 1 ≤ d ∧ ∀ H', Sx2 p h H H' → LWAt K H' p h d (shiftL d s n) → Q .non H'
theorem met_shift (T : Tx K mg) : Met P w K mg base 1 (cLW K) "shift" (spShift K) [] := by
  refine metD T.f_LineWork_shift T.c_LineWork T.m_LineWork_shift sc_LineWork_shift (fun vs H Q E h => ?_) (fun _ _ _ _ _ _ us hl => match us, hl with | [_, _], _ => rfl) (fun cdv A outer s H vs Q E hr h => ?_)
  · obtain ⟨p, h, d, s, far, rfl, _⟩ := h
    rfl
  · obtain ⟨p, h, d, s, m, rfl, ⟨dx, n, hp, hh⟩, d1, k⟩ := h
    have ne : h ≠ p := ne_of hh hp (by intro z; cases z)
    refine ⟨_, (pss_cons (ps_fld (pv 0) (pe_op op_mod (pe_op op_add (pe_fld (pv 0) rfl) (pv 1)) (pe_op op_mul pe_int (pe_fld (pv 0) rfl))) rfl)
      (pss_one (ps_fldaug (pv 0) (pe_callB call_abs (by rfl) T.n_abs (by decide +kernel) (pa_cons (pv 1) pa_nil)) in_add))), ?_⟩
    refine ⟨_, rfl, p, _, dx, _, _, rfl, hp, T.c_LineWork, T.na_LineWork_stand, rfl, _, rfl, _, _, rfl, rfl, ?_⟩
    refine ⟨_, rfl, p, _, dx, _, _, rfl, hp, T.c_LineWork, T.na_LineWork_half, rfl, _, _, rfl, rfl, .inl ⟨by decide, by decide⟩, _, _, rfl, rfl, by show (0 : Int) < 2 * d; omega, ?_⟩
    refine ⟨_, rfl, p, _, dx, _, rfl, hp, T.c_LineWork, T.na_LineWork_stand, by show 4 < 1000; decide, ?_⟩
    refine ⟨_, rfl, p, _, dx, _, _, rfl, upd_same, T.c_LineWork, T.na_LineWork_lengths, rfl, ?_⟩
    refine ⟨_, rfl, _, rfl, _, _, rfl, rfl, dx, _, upd_same, by show 4 < 1000; decide, ?_⟩
    refine k _ (Sx2.refl.putP.putP) ⟨dx, _, upd_same, ?_⟩
    rw [upd_ne ne, upd_ne ne]
    exact hh
abbrev N_LineWork_thing_at : List Str := ["self", "window", "spot", "thing", "place"]
theorem sc_LineWork_thing_at : FnScope N_LineWork_thing_at ["self", "window"] (defScope s_LineWork_thing_at) := ⟨rfl, rfl, rfl, by decide +kernel, rfl, by decide +kernel, by decide +kernel⟩
def spThingL (K : PySem.W.Frag) : Sp := fun vs H Q _ => ∃ p h d s far, vs = [.ref p, .str (wS far)] ∧ LWAt K H p h d s ∧ 1 ≤ d ∧ ∀ H', Same H H' → Q (whatV (thingL d s far)) H'
theorem met_thingL (T : Tx K mg) : Met P w K mg base 2 (cLW K) "thing_at" (spThingL K) [] := by
  refine metD T.f_LineWork_thing_at T.c_LineWork T.m_LineWork_thing_at sc_LineWork_thing_at (fun vs H Q E h => ?_) (fun _ _ _ _ _ _ us hl => match us, hl with | [_, _], _ => rfl) (fun cdv A outer s H vs Q E hr h => ?_)
  · obtain ⟨p, h, d, s, far, rfl, _⟩ := h
    rfl
  · obtain ⟨p, h, d, s, far, rfl, L, d1, k⟩ := h
    have L' := L
    obtain ⟨dx, n, hp, hh⟩ := L
    have ne : p ≠ h := Ne.symm L'.ne
    refine ⟨_, (pss_cons (ps_set (i := 2) sc_LineWork_thing_at.nd rfl (Or.inl rfl) (C8.pe_mt (met_spotL T) hr (by decide) (pv 0) (pa_cons (pv 1) pa_nil)))
      (pss_cons (ps_lock (ps_for PassesOwn.never rfl (pi_items (pe_fld (pv 0) rfl)) (pg_tup rfl (pgs_cons (pg_name (i := 3) sc_LineWork_thing_at.nd rfl (Or.inl rfl)) (pgs_cons (pg_name (i := 4) sc_LineWork_thing_at.nd rfl (Or.inl rfl)) pgs_nil))) (pss_one (ps_if (pt_cmpR op_eq (pv 4) (pv 2) (nomark _)) (pss_one (ps_ret (pv 3))) pss_nil))))
      (pss_one (ps_ret pe_non)))), ?_⟩
    refine ⟨_, rfl, p, dx, _, rfl, hp, rfl, _, rfl, p, h, d, s, far, rfl, L'.i, d1, ?_⟩
    refine ⟨h, _, hh, trivial, fun od => ?_⟩
    have hp1 : upd H h (.frz od (.dK (hungV s.hung))) p = some (.ins (cLW K) dx [("half", .int d), ("stand", .int s.stand), ("hung", .ref h), ("lengths", .int n)]) := by
      rw [upd_ne ne]
      exact hp
    refine ⟨_, rfl, p, _, dx, _, _, rfl, hp1, T.c_LineWork, T.na_LineWork_hung, rfl, h, od, _, rfl, upd_same, ?_⟩
    refine for_it walk_items (fun i σ' H' => Same (upd H h (.frz od (.dK (hungV s.hung)))) H' ∧ (∃ x y, σ' = [some (.ref p), some (.str (wS far)), some (.int (spotL d s far)), x, y]) ∧ ∀ j < i, ∀ q, s.hung[j]? = some q → q.2 ≠ spotL d s far) ⟨fun _ _ e => e, ⟨_, _, rfl⟩, fun j hj => absurd hj (by omega)⟩ (fun i σ' H' _ hh => hh.1 _ _ upd_same) ?_ ?_
    · rintro i x σ' H1 H2 hi ⟨e1, ⟨x', y', rfl⟩, hn⟩ ⟨t, k1, v1, rfl, ht, rfl, hk, hv⟩
      have hi' : i < s.hung.length := by
        have : (hungV s.hung).length = s.hung.length := List.length_map ..
        omega
      have eq0 : s.hung[i]? = some s.hung[i] := List.getElem?_eq_getElem hi'
      have eq1 : (hungV s.hung)[i]? = some (Sum.inr s.hung[i].1, V.int s.hung[i].2) := by
        unfold hungV
        rw [List.getElem?_map, eq0]
        rfl
      dsimp only at hk hv
      rw [eq1] at hk hv
      cases hk
      cases hv
      have e2 : Same (upd H h (.frz od (.dK (hungV s.hung)))) (upd H1 t (.tup [.str s.hung[i].1, .int s.hung[i].2])) := e1.add ht
      refine ⟨t, _, rfl, SqT.of upd_same, rfl, _, _, rfl, _, _, rfl, rfl, ?_⟩
      refine ⟨_, rfl, _, rfl, rfl, _, rfl, ?_⟩
      by_cases e : s.hung[i].2 = spotL d s far
      · refine iteTd (by rw [e]; exact decide_eq_true rfl) ⟨_, rfl, e2 _ _ upd_same, ?_⟩
        have r : thingL d s far = some s.hung[i].1 := by
          unfold thingL whoAt
          have : s.hung.find? (fun p => decide (p.2 = spotL d s far)) = some s.hung[i] := by
            rw [List.find?_eq_some_iff_getElem]
            refine ⟨decide_eq_true e, i, hi', rfl, fun j hj => ?_⟩
            have := hn j hj _ (List.getElem?_eq_getElem (by omega))
            simp [this]
          rw [this]
          rfl
        rw [r] at k
        refine k _ (fun b u z => ?_)
        by_cases hb : b = h
        · subst hb
          rw [upd_same]
          rw [hh] at z
          exact z
        · rw [upd_ne hb]
          exact e2 b u (by rw [upd_ne hb]; exact z)
      · refine iteFd (decide_eq_false (fun z => e (V.int.inj z))) ⟨e2, ⟨_, _, rfl⟩, fun j hj q hq => ?_⟩
        rcases Nat.lt_succ_iff_lt_or_eq.mp hj with hj | rfl
        · exact hn j hj q hq
        · rw [eq0] at hq
          cases hq
          exact e
    · rintro σ' H1 ⟨e1, ⟨x', y', rfl⟩, hn⟩
      refine ⟨e1 _ _ upd_same, ?_⟩
      have r : thingL d s far = none := by
        unfold thingL whoAt
        rw [List.find?_eq_none.mpr fun q hq => ?_]
        · rfl
        · obtain ⟨j, hj, rfl⟩ := List.getElem_of_mem hq
          have hl : (hungV s.hung).length = s.hung.length := List.length_map ..
          have := hn j (by omega) _ (List.getElem?_eq_getElem hj)
          simp [this]
      rw [r] at k
      refine k _ (fun b u z => ?_)
      by_cases hb : b = h
      · subst hb
        rw [upd_same]
        rw [hh] at z
        exact z
      · rw [upd_ne hb]
        exact e1 b u (by rw [upd_ne hb]; exact z)
end
end Rln
end
section
set_option Elab.async false
set_option linter.all false
set_option maxRecDepth 100000
set_option maxHeartbeats 4000000
namespace Rln
open PySem PySem.Spec PyProof.Rows L2
theorem valV_key {kvs : List (Key × V)} {k : Key} (h : valV kvs k = none) : (kvs.any fun kv => decide (kv.1 = k)) = false := by
  rw [valV_any, h]
  rfl
theorem putK_hung {l : List (Str × Int)} {t : Str} (h : getK l t = none) (n : Int) : putK (hungV l) (Sum.inr t) (.int n) = hungV (l ++ [(t, n)]) := by
  have e : valV (hungV l) (Sum.inr t) = none := by rw [valV_hung, h]; rfl
  unfold putK
  rw [if_neg (by rw [valV_key e]; exact Bool.false_ne_true)]
  unfold hungV
  rw [List.map_append]
  rfl
theorem dropK_hung (l : List (Str × Int)) (t : Str) : dropK (hungV l) (Sum.inr t) = hungV (delK l t) := by
  unfold dropK hungV delK
  rw [List.filter_map]
  congr 1
  refine List.filter_congr fun q _ => ?_
  simp
theorem firstN_lt {free : Nat → Bool} {f j : Nat} (h : j < firstN free f) : free j = false := by
  unfold firstN at h
  cases e : (List.range f).find? fun i => free i with
  | none =>
    rw [e] at h
    have := List.find?_eq_none.mp e j (List.mem_range.mpr h)
    simpa using this
  | some i =>
    rw [e] at h
    obtain ⟨_, k, hk, e2, e3⟩ := List.find?_eq_some_iff_getElem.mp e
    have h : j < i := h
    rw [List.length_range] at hk
    rw [List.getElem_range] at e2
    subst e2
    have := e3 j h
    rw [List.getElem_range] at this
    simpa using this
theorem firstN_le (free : Nat → Bool) (f : Nat) : firstN free f ≤ f := by
  unfold firstN
  cases e : (List.range f).find? fun i => free i with
  | none => exact Nat.le_refl _
  | some i => exact Nat.le_of_lt (List.mem_range.mp (List.mem_of_find?_eq_some e))
theorem firstN_ok {free : Nat → Bool} {f : Nat} (h : ∃ i, i ≤ f ∧ free i = true) : free (firstN free f) = true := by
  unfold firstN
  cases e : (List.range f).find? fun i => free i with
  | none =>
    obtain ⟨i, hi, hf⟩ := h
    have : i = f := by
      rcases Nat.lt_or_eq_of_le hi with z | z
      · exact absurd hf (List.find?_eq_none.mp e i (List.mem_range.mpr z))
      · exact z
    subst this
    exact hf
  | some i => exact List.find?_some (p := fun i => free i) e
def optI : Option Int → V
  | none => .non
  | some n => .int n
theorem wh_none {o : Option Str} : decide (whatV o = V.non) = o.isNone := by cases o <;> rfl
section
variable {P : Program} {w : World} {K : PySem.W.Frag} {mg : Str → Option Value} {base : Heap}
/-- what a method of the line promises: the new line, the value -/
def spLW (K : PySem.W.Frag) (args : List V) (r : Int → LW Str → LW Str × TV Str) (pre : Int → LW Str → Prop) (val : TV Str → V) : Sp := fun vs H Q _ => ∃ p h d s, vs = .ref p :: args ∧ LWAt K H p h d s ∧ LWOk d s ∧ pre d s ∧
  ∀ H', Sx2 p h H H' → LWAt K H' p h d (r d s).1 → Q (val (r d s).2) H'
def valT : TV Str → V
  | .non => .non
  | .bl b => .bl b
  | .no => .str "no"
  | .str t => .str t
  | .int i => .int i
  | .form => .non
abbrev N_LineWork_look : List Str := ["self", "window", "takes", "found"]
theorem sc_LineWork_look : FnScope N_LineWork_look ["self", "window", "takes"] (defScope s_LineWork_look) := ⟨rfl, rfl, rfl, by decide +kernel, rfl, by decide +kernel, by decide +kernel⟩
def spLook (K : PySem.W.Frag) : Sp := fun vs H Q E => ∃ far tk tk', tk' = tk ∧ spLW K [.str (wS far), .bl tk'] (fun d s => tellPL d s (if tk then .take far else .look far)) (fun _ _ => True) valT vs H Q E
theorem whoAt_key {l : List (Str × Int)} {x : Int} {t : Str} (h : whoAt l x = some t) : (getK l t).isSome = true := by
  unfold whoAt at h
  cases e : l.find? fun p => decide (p.2 = x) with
  | none => rw [e] at h; cases h
  | some q =>
    rw [e] at h
    cases h
    unfold getK
    rw [Option.isSome_map, List.find?_isSome]
    exact ⟨q, List.mem_of_find?_eq_some e, decide_eq_true rfl⟩
theorem met_lookL (T : Tx K mg) : Met P w K mg base 3 (cLW K) "look" (spLook K) [] := by
  refine metD T.f_LineWork_look T.c_LineWork T.m_LineWork_look sc_LineWork_look (fun vs H Q E h => ?_) (fun _ _ _ _ _ _ us hl => match us, hl with | [_, _, _], _ => rfl) (fun cdv A outer s H vs Q E hr h => ?_)
  · obtain ⟨far, tk0, tk, e, p, h, d, s, rfl, _⟩ := h
    rfl
  · obtain ⟨far, tk0, tk, e, p, h, d, s, rfl, L, ok, _, k⟩ := h
    subst e
    have hu := hu_of hr
    refine ⟨_, (pss_cons (ps_set (i := 3) sc_LineWork_look.nd rfl (Or.inl rfl) (C8.pe_mt (met_thingL T) hr (by decide) (pv 0) (pa_cons (pv 1) pa_nil)))
      (pss_cons (ps_if (PW.pt (pw_and (pt_val (pv 2)) (pw_and1 (pt_cmpR op_notN (pv 3) pe_non (nomark _))))) (pss_one (ps_expr (pe_dpop1 (pe_fld (pv 0) rfl) (pv 3) ⟨rfl, rfl, rfl, rfl⟩))) pss_nil)
      (pss_one (ps_ret (pv 3))))), ?_⟩
    obtain ⟨dx, n, hp, hh⟩ := id L
    refine ⟨_, rfl, p, dx, _, rfl, hp, rfl, _, rfl, p, h, d, s, far, rfl, L, ok.d1, fun H1 e1 => ?_⟩
    have L1 := L.mono e1
    obtain ⟨dx, n, hp, hh⟩ := id L1
    cases tk with
    | false =>
      refine ⟨_, rfl, _, rfl, iteF ⟨_, rfl, ?_⟩⟩
      have k' := k H1 (Same.sx2 e1)
      cases e : thingL d s far with
      | none =>
        simp only [tellPL, e, Bool.false_eq_true, if_false] at k'
        exact k' L1
      | some t =>
        simp only [tellPL, e, Bool.false_eq_true, if_false] at k'
        exact k' L1
    | true =>
      refine ⟨_, rfl, _, rfl, iteT ⟨_, rfl, rfl, _, rfl, ?_⟩⟩
      cases e : thingL d s far with
      | none =>
        have k' := k H1 (Same.sx2 e1)
        simp only [tellPL, e, if_true] at k'
        exact iteF ⟨_, rfl, k' L1⟩
      | some t =>
        refine iteT ⟨_, rfl, p, _, dx, _, _, rfl, hp, T.c_LineWork, T.na_LineWork_hung, rfl, h, rfl, .inl ⟨_, .inl hh⟩, _, rfl, hungV s.hung, Sum.inr t, ?_⟩
        obtain ⟨m, em⟩ := Option.isSome_iff_exists.mp (whoAt_key e)
        refine ⟨.int m, hh, rfl, by rw [valV_hung, em]; rfl, _, rfl, ?_⟩
        have k' := k (upd H1 h (.dK (dropK (hungV s.hung) (Sum.inr t)))) ((Same.sx2 e1).putH)
        simp only [tellPL, e, if_true] at k'
        refine k' ⟨dx, n, ?_, ?_⟩
        · rw [upd_ne (Ne.symm L1.ne)]
          exact hp
        · rw [upd_same, dropK_hung]
abbrev N_LineWork_peg : List Str := ["self", "window", "thing"]
theorem sc_LineWork_peg : FnScope N_LineWork_peg ["self", "window", "thing"] (defScope s_LineWork_peg) := ⟨rfl, rfl, rfl, by decide +kernel, rfl, by decide +kernel, by decide +kernel⟩
def spPegL (K : PySem.W.Frag) : Sp := fun vs H Q E => ∃ far t, spLW K [.str (wS far), .str t] (fun d s => tellPL d s (.peg far t)) (fun _ s => s.hung.length ≤ 100) valT vs H Q E
theorem met_pegL (T : Tx K mg) : Met P w K mg base 3 (cLW K) "peg" (spPegL K) [] := by
  refine metD T.f_LineWork_peg T.c_LineWork T.m_LineWork_peg sc_LineWork_peg (fun vs H Q E h => ?_) (fun _ _ _ _ _ _ us hl => match us, hl with | [_, _, _], _ => rfl) (fun cdv A outer s H vs Q E hr h => ?_)
  · obtain ⟨far, tk, p, h, d, s, rfl, _⟩ := h
    rfl
  · obtain ⟨far, t, p, h, d, s, rfl, L, ok, hl, k⟩ := h
    have hu := hu_of hr
    refine ⟨_, (pss_cons (ps_if (PW.pt (pw_or (pt_cmp (pc_din hu (pv 2) (pe_fld (pv 0) rfl))) (pw_or1 (pt_cmpR op_notN (C8.pe_mt (met_thingL T) hr (by decide) (pv 0) (pa_cons (pv 1) pa_nil)) pe_non (nomark _))))) (pss_one (ps_ret pe_bl)) pss_nil)
      (pss_cons (ps_dput hu (pe_fld (pv 0) rfl) (pv 2) (C8.pe_mt (met_spotL T) hr (by decide) (pv 0) (pa_cons (pv 1) pa_nil)) rfl)
      (pss_one (ps_ret pe_bl)))), ?_⟩
    obtain ⟨dx, n, hp, hh⟩ := id L
    refine ⟨_, rfl, _, rfl, p, _, dx, _, _, rfl, hp, T.c_LineWork, T.na_LineWork_hung, rfl, h, _, rfl, DGet.k (k := Sum.inr t) hh, _, rfl, ?_⟩
    rw [valV_hung]
    cases e : getK s.hung t with
    | some m =>
      have k' := k H (fun _ _ _ _ e => e)
      simp only [tellPL, e, Option.isSome_some, Bool.true_or, if_true] at k'
      exact iteT (iteT (k' L))
    | none =>
      refine iteF ⟨_, rfl, p, dx, _, rfl, hp, rfl, _, rfl, p, h, d, s, far, rfl, L, ok.d1, fun H1 e1 => ⟨rfl, _, rfl, ?_⟩⟩
      have e1 : Same H H1 := e1
      have L1 := L.mono e1
      obtain ⟨dx, n, hp, hh⟩ := id L1
      cases e2 : thingL d s far with
      | some m =>
        have k' := k H1 (Same.sx2 e1)
        simp only [tellPL, e, e2, Option.isSome_some, Bool.or_true, if_true] at k'
        exact iteT (k' L1)
      | none =>
        refine iteF ⟨_, rfl, p, dx, _, rfl, hp, rfl, _, rfl, p, h, d, s, far, rfl, L1.i, ok.d1, ?_⟩
        refine ⟨_, rfl, p, _, dx, _, _, rfl, hp, T.c_LineWork, T.na_LineWork_hung, rfl, _, rfl, h, _, rfl, DPut.k (k := Sum.inr t) hh ?_, ?_⟩
        · have : (hungV s.hung).length = s.hung.length := List.length_map ..
          rw [this, sizeLine_eq]
          omega
        · rw [putK_hung e]
          have k' := k (upd H1 h (.dK (hungV (s.hung ++ [(t, spotL d s far)])))) ((Same.sx2 e1).putH)
          simp only [tellPL, e, e2, Option.isSome_none, Bool.or_false, Bool.false_eq_true, if_false] at k'
          refine k' ⟨dx, n, ?_, upd_same⟩
          rw [upd_ne (Ne.symm L1.ne)]
          exact hp
abbrev N_LineWork_fetch : List Str := ["self", "window", "thing", "number"]
theorem sc_LineWork_fetch : FnScope N_LineWork_fetch ["self", "window", "thing"] (defScope s_LineWork_fetch) := ⟨rfl, rfl, rfl, by decide +kernel, rfl, by decide +kernel, by decide +kernel⟩
def spFetchL (K : PySem.W.Frag) : Sp := fun vs H Q E => ∃ far t, spLW K [.str (wS far), .str t] (fun d s => tellPL d s (.fetch far t)) (fun _ s => True) valT vs H Q E
theorem met_fetchL (T : Tx K mg) : Met P w K mg base 3 (cLW K) "fetch" (spFetchL K) [] := by
  refine metD T.f_LineWork_fetch T.c_LineWork T.m_LineWork_fetch sc_LineWork_fetch (fun vs H Q E h => ?_) (fun _ _ _ _ _ _ us hl => match us, hl with | [_, _, _], _ => rfl) (fun cdv A outer s H vs Q E hr h => ?_)
  · obtain ⟨far, tk, p, h, d, s, rfl, _⟩ := h
    rfl
  · obtain ⟨far, t, p, h, d, s, rfl, L, ok, hl, k⟩ := h
    have hu := hu_of hr
    refine ⟨_, (pss_cons (ps_if (pt_cmp (pc_dnotin hu (pv 2) (pe_fld (pv 0) rfl))) (pss_one (ps_ret pe_non)) pss_nil)
      (pss_cons (ps_set (i := 3) sc_LineWork_fetch.nd rfl (Or.inl rfl) (pe_op op_mod (pe_op op_sub (pe_dget hu (pe_fld (pv 0) rfl) (pv 2) (fun _ _ => rfl)) (C8.pe_mt (met_spotL T) hr (by decide) (pv 0) (pa_cons (pv 1) pa_nil))) (pe_op op_mul pe_int (pe_fld (pv 0) rfl))))
      (pss_cons (ps_expr (C8.pe_mt (met_shift T) hr (by decide) (pv 0) (pa_cons (pv 3) pa_nil)))
      (pss_one (ps_ret (pv 3)))))), ?_⟩
    obtain ⟨dx, n, hp, hh⟩ := id L
    refine ⟨_, rfl, _, rfl, p, _, dx, _, _, rfl, hp, T.c_LineWork, T.na_LineWork_hung, rfl, h, _, rfl, DGet.k (k := Sum.inr t) hh, _, rfl, ?_⟩
    rw [valV_hung]
    cases e : getK s.hung t with
    | none =>
      have k' := k H (fun _ _ _ _ e => e)
      simp only [tellPL, e] at k'
      exact iteT (k' L)
    | some m =>
      have g := DGet.k (k := Sum.inr t) hh
      rw [valV_hung, e] at g
      refine iteF ⟨_, rfl, p, _, dx, _, _, rfl, hp, T.c_LineWork, T.na_LineWork_hung, rfl, _, rfl, h, _, rfl, g, ?_⟩
      have d1 := ok.d1
      refine ⟨_, rfl, p, dx, _, rfl, hp, rfl, _, rfl, p, h, d, s, far, rfl, L.i, ok.d1, _, _, rfl, rfl, ?_⟩
      refine ⟨_, rfl, p, _, dx, _, _, rfl, hp, T.c_LineWork, T.na_LineWork_half, rfl, _, _, rfl, rfl, .inl ⟨by decide, by decide⟩, _, _, rfl, rfl, by show (0 : Int) < 2 * d; omega, ?_⟩
      refine ⟨_, rfl, p, dx, _, rfl, hp, rfl, _, rfl, p, h, d, s, _, rfl, L, ok.d1, fun H1 e1 L1 => ?_⟩
      have k' := k H1 e1
      simp only [tellPL, e] at k'
      exact ⟨_, rfl, k' L1⟩
end
end Rln
end
section
set_option Elab.async false
set_option linter.all false
set_option maxRecDepth 100000
set_option maxHeartbeats 4000000
namespace Rln
open PySem PySem.Spec PyProof.Rows L2
theorem dec_ne {a b : V} (h : a ≠ b) : decide (a = b) = false := decide_eq_false h
section
variable {P : Program} {w : World} {K : PySem.W.Frag} {mg : Str → Option Value} {base : Heap}
abbrev N_LineWork_hang : List Str := ["self", "window", "thing", "number"]
theorem sc_LineWork_hang : FnScope N_LineWork_hang ["self", "window", "thing"] (defScope s_LineWork_hang) := ⟨rfl, rfl, rfl, by decide +kernel, rfl, by decide +kernel, by decide +kernel⟩
def hangPre (far : Bool) (d : Int) (s : LW Str) : Prop := s.hung.length ≤ 100 ∧ ((s.hung.length : Int) ≠ 2 * d → ∃ i, i ≤ s.hung.length ∧ freeL d s far i = true)
def spHangL (K : PySem.W.Frag) : Sp := fun vs H Q E => ∃ far t, spLW K [.str (wS far), .str t] (fun d s => tellPL d s (.hang far t)) (hangPre far) valT vs H Q E
theorem spot_shift (d : Int) (s : LW Str) (far : Bool) (i : Nat) : spotL d ⟨(s.stand + (i : Int)) % (2 * d), s.hung⟩ far = (s.stand + (i : Int) + if far then d else 0) % (2 * d) := by
  unfold spotL
  rw [Int.emod_add_emod]
theorem met_hangL (T : Tx K mg) : Met P w K mg base 3 (cLW K) "hang" (spHangL K) [] := by
  refine metD T.f_LineWork_hang T.c_LineWork T.m_LineWork_hang sc_LineWork_hang (fun vs H Q E h => ?_) (fun _ _ _ _ _ _ us hl => match us, hl with | [_, _, _], _ => rfl) (fun cdv A outer s H vs Q E hr h => ?_)
  · obtain ⟨far, tk, p, h, d, s, rfl, _⟩ := h
    rfl
  · obtain ⟨far, t, p, h, d, s, rfl, L, ok, ⟨hl, pre⟩, k⟩ := h
    have hu := hu_of hr
    refine ⟨_, (pss_cons (ps_if (PW.pt (pw_or (pt_cmp (pc_din hu (pv 2) (pe_fld (pv 0) rfl))) (pw_or1 (pt_cmpR op_eq (pe_callB call_lenD (by rfl) T.n_len PySem.boot_len (pa_cons (pe_fld (pv 0) rfl) pa_nil)) (pe_op op_mul pe_int (pe_fld (pv 0) rfl)) (nomark _))))) (pss_one (ps_ret pe_non)) pss_nil)
      (pss_cons (ps_set (i := 3) sc_LineWork_hang.nd rfl (Or.inl rfl) pe_int)
      (pss_cons (ps_while PassesOwn.never (pt_cmpR op_notN (C8.pe_mt (met_thingL T) hr (by decide) (pv 0) (pa_cons (pv 1) pa_nil)) pe_non (nomark _)) (pss_cons (ps_expr (C8.pe_mt (met_shift T) hr (by decide) (pv 0) (pa_cons pe_int pa_nil)))
      (pss_one (ps_aug (i := 3) sc_LineWork_hang.nd rfl (Or.inl rfl) pe_int ip_add))))
      (pss_cons (ps_dput hu (pe_fld (pv 0) rfl) (pv 2) (C8.pe_mt (met_spotL T) hr (by decide) (pv 0) (pa_cons (pv 1) pa_nil)) rfl)
      (pss_one (ps_ret (pv 3))))))), ?_⟩
    obtain ⟨dx, n, hp, hh⟩ := id L
    have d1 := ok.d1
    have hlen : (hungV s.hung).length = s.hung.length := List.length_map ..
    refine ⟨_, rfl, _, rfl, p, _, dx, _, _, rfl, hp, T.c_LineWork, T.na_LineWork_hung, rfl, h, _, rfl, DGet.k (k := Sum.inr t) hh, _, rfl, ?_⟩
    rw [valV_hung]
    cases e : getK s.hung t with
    | some m =>
      have k' := k H (fun _ _ _ _ e => e)
      simp only [tellPL, e, Option.isSome_some, Bool.true_or, if_true] at k'
      exact iteT (iteT (k' L))
    | none =>
      refine iteF ⟨_, rfl, p, _, dx, _, _, rfl, hp, T.c_LineWork, T.na_LineWork_hung, rfl, h, _, rfl, hh, _, rfl, p, _, dx, _, _, rfl, hp, T.c_LineWork, T.na_LineWork_half, rfl, _, _, rfl, rfl, .inl ⟨by decide, by decide⟩, rfl, _, rfl, ?_⟩
      rw [hlen]
      by_cases hne : (s.hung.length : Int) = 2 * d
      · have k' := k H (fun _ _ _ _ e => e)
        dsimp only at k'
        rw [show (tellPL d s (.hang far t)) = (s, .non) by simp [tellPL, e, hne]] at k'
        exact iteTd (by rw [hne]; exact decide_eq_true rfl) (k' L)
      · refine iteFd (dec_ne fun z => hne (V.int.inj z)) ?_
        have ok1 := firstN_ok (pre hne)
        refine while_by (fun σ' H' => ∃ i : Nat, i ≤ nL d s far ∧ σ' = [some (.ref p), some (.str (wS far)), some (.str t), some (.int i)] ∧ Sx2 p h H H' ∧ LWAt K H' p h d ⟨(s.stand + (i : Int)) % (2 * d), s.hung⟩)
          (fun σ' _ => match σ' with | [_, _, _, some (.int y)] => nL d s far - y.toNat | _ => 0) ⟨0, Nat.zero_le _, rfl, fun _ _ _ _ e => e, ?_⟩ ?_ ?_
        · have : (s.stand + ((0 : Nat) : Int)) % (2 * d) = s.stand := by
            rw [show ((0 : Nat) : Int) = 0 from rfl, Int.add_zero]
            exact Int.emod_eq_of_lt ok.s1 ok.s2
          rw [this]
          exact L
        · rintro σ' H1 ⟨i, hi, rfl, e1, L1⟩
          obtain ⟨dx1, n1, hp1, hh1⟩ := id L1
          refine ⟨_, rfl, p, dx1, _, rfl, hp1, rfl, _, rfl, p, h, d, _, far, rfl, L1, d1, fun H2 e2 => ⟨rfl, _, rfl, ?_⟩⟩
          have L2 := LWAt.mono e2 L1
          obtain ⟨dx2, n2, hp2, hh2⟩ := id L2
          rw [wh_none]
          have ef : (thingL d ⟨(s.stand + (i : Int)) % (2 * d), s.hung⟩ far).isNone = freeL d s far i := by
            unfold thingL freeL
            rw [spot_shift]
          rw [ef]
          rcases Nat.lt_or_eq_of_le hi with hi' | rfl
          · have : freeL d s far i = false := firstN_lt hi'
            refine iteTd (by rw [this]; rfl) ⟨_, rfl, p, dx2, _, rfl, hp2, rfl, p, h, d, _, _, rfl, L2, d1, fun H3 e3 L3 => ?_⟩
            refine ⟨_, rfl, _, _, rfl, rfl, ⟨i + 1, hi', rfl, (e1.trans (Same.sx2 e2)).trans e3, ?_⟩, ?_⟩
            · have : shiftL d ⟨(s.stand + (i : Int)) % (2 * d), s.hung⟩ 1 = ⟨(s.stand + ((i + 1 : Nat) : Int)) % (2 * d), s.hung⟩ := by
                unfold shiftL
                rw [Int.emod_add_emod]
                congr 2
                omega
              rw [← this]
              exact L3
            · show nL d s far - ((i : Int) + 1).toNat < nL d s far - ((i : Int)).toNat
              omega
          · have : freeL d s far (nL d s far) = true := ok1
            refine iteFd (by rw [this]; rfl) ⟨_, rfl, p, dx2, _, rfl, hp2, rfl, _, rfl, p, h, d, _, far, rfl, L2.i, d1, ?_⟩
            refine ⟨_, rfl, p, _, dx2, _, _, rfl, hp2, T.c_LineWork, T.na_LineWork_hung, rfl, _, rfl, h, _, rfl, DPut.k (k := Sum.inr t) hh2 ?_, ?_⟩
            · rw [hlen, sizeLine_eq]
              omega
            · rw [putK_hung e, spot_shift]
              have k' := k (upd H2 h (.dK (hungV (s.hung ++ [(t, (s.stand + (nL d s far : Int) + if far then d else 0) % (2 * d))])))) ((e1.trans (Same.sx2 e2)).putH)
              dsimp only at k'
              rw [show (tellPL d s (.hang far t)) = (⟨(s.stand + (nL d s far : Int)) % (2 * d), s.hung ++ [(t, (s.stand + (nL d s far : Int) + if far then d else 0) % (2 * d))]⟩, .int (nL d s far : Int)) by simp [tellPL, e, hne]] at k'
              refine ⟨_, rfl, k' ⟨dx2, n2, ?_, upd_same⟩⟩
              rw [upd_ne (Ne.symm L2.ne)]
              exact hp2
        · rintro σ' H' Q1 Q2 hq ⟨v, h1, a, b, c, h2, h3, h4, v2, h5, p', h', d', s', f', h6, h7, h8, h9⟩
          exact ⟨v, h1, a, b, c, h2, h3, h4, v2, h5, p', h', d', s', f', h6, h7, h8, fun H2 e2 => by
            obtain ⟨z1, z2, z3, z4⟩ := h9 H2 e2
            exact ⟨z1, z2, z3, hq _ _ z4⟩⟩
abbrev N_LineWork_times_to : List Str := ["self", "window", "place", "step", "gap", "first", "rounds", "length"]
theorem sc_LineWork_times_to : FnScope N_LineWork_times_to ["self", "window", "place", "step"] (defScope s_LineWork_times_to) := ⟨rfl, rfl, rfl, by decide +kernel, rfl, by decide +kernel, by decide +kernel⟩
def spTimes (K : PySem.W.Frag) : Sp := fun vs H Q E => ∃ p h d s far place st, vs = [.ref p, .str (wS far), .int place, .int st] ∧ LWI K H p h d s ∧ 1 ≤ d ∧ st ≠ 0 ∧ -6 ≤ st ∧ st ≤ 6 ∧ Q (optI (timesTo d s far place st)) H
theorem met_times (T : Tx K mg) : Met P w K mg base 2 (cLW K) "times_to" (spTimes K) [] := by
  refine metD T.f_LineWork_times_to T.c_LineWork T.m_LineWork_times_to sc_LineWork_times_to (fun vs H Q E h => ?_) (fun _ _ _ _ _ _ us hl => match us, hl with | [_, _, _, _], _ => rfl) (fun cdv A outer s H vs Q E hr h => ?_)
  · obtain ⟨p, h, d, s, far, place, st, rfl, _⟩ := h
    rfl
  · obtain ⟨p, h, d, s, far, place, st, rfl, L, d1, n0, n1, n2, k⟩ := h
    refine ⟨_, (pss_cons (ps_set (i := 4) sc_LineWork_times_to.nd rfl (Or.inl rfl) (pe_op op_sub (pv 2) (C8.pe_mt (met_spotL T) hr (by decide) (pv 0) (pa_cons (pv 1) pa_nil))))
      (pss_cons (ps_set (i := 5) sc_LineWork_times_to.nd rfl (Or.inl rfl) (pe_op op_mod (pe_ifExp (pt_cmpR op_gt (pv 3) pe_int (nomark _)) (pv 4) (pe_un un_neg (pv 4))) (pe_op op_mul pe_int (pe_fld (pv 0) rfl))))
      (pss_cons (ps_for PassesOwn.never rfl (pi_range1 (by rfl) T.n_range (pa_cons (pe_callB call_abs (by rfl) T.n_abs (by decide +kernel) (pa_cons (pv 3) pa_nil)) pa_nil)) (pg_name (i := 6) sc_LineWork_times_to.nd rfl (Or.inl rfl)) (pss_cons (ps_set (i := 7) sc_LineWork_times_to.nd rfl (Or.inl rfl) (pe_op op_add (pv 5) (pe_op op_mul (pe_op op_mul (pv 6) pe_int) (pe_fld (pv 0) rfl))))
      (pss_one (ps_if (pt_cmpR op_eq (pe_op op_mod (pv 7) (pe_callB call_abs (by rfl) T.n_abs (by decide +kernel) (pa_cons (pv 3) pa_nil))) pe_int (nomark _)) (pss_one (ps_ret (pe_op op_fdiv (pv 7) (pe_callB call_abs (by rfl) T.n_abs (by decide +kernel) (pa_cons (pv 3) pa_nil))))) pss_nil))))
      (pss_one (ps_ret pe_non))))), ?_⟩
    obtain ⟨dx, n, hp⟩ := id L
    refine ⟨_, rfl, _, rfl, p, dx, _, rfl, hp, rfl, _, rfl, p, h, d, s, far, rfl, L, d1, _, _, rfl, rfl, ?_⟩
    have ab : (if st < 0 then -st else st) = (st.natAbs : Int) := by split <;> omega
    have na1 : 0 < st.natAbs := by omega
    have na2 : st.natAbs ≤ 6 := by omega
    have fp : 0 ≤ firstL d s far place st := Int.emod_nonneg _ (by omega)
    have fq : firstL d s far place st < 2 * d := Int.emod_lt_of_pos _ (by omega)
    by_cases h0 : st > 0
    · refine ⟨_, rfl, _, _, rfl, rfl, _, rfl, iteTd (decide_eq_true h0) ⟨_, rfl, _, rfl, p, _, dx, _, _, rfl, hp, T.c_LineWork, T.na_LineWork_half, rfl, _, _, rfl, rfl, .inl ⟨by decide, by decide⟩, _, _, rfl, rfl, by show (0 : Int) < 2 * d; omega, ?_⟩⟩
      have ef : (place - spotL d s far) % (2 * d) = firstL d s far place st := by unfold firstL; rw [if_pos h0]
      dsimp only
      rw [ef]
      refine ⟨_, rfl, _, rfl, _, rfl, by rw [ab]; omega, by rw [ab]; omega, ?_⟩
      rw [ab]
      refine for_it walk_range (fun i σ' H' => H' = H ∧ (∃ x y, σ' = [some (.ref p), some (.str (wS far)), some (.int place), some (.int st), some (.int (place - spotL d s far)), some (.int (firstL d s far place st)), x, y]) ∧
        ∀ j < i, decide ((firstL d s far place st + (j : Int) * 2 * d) % (st.natAbs : Int) = 0) = false) ⟨rfl, ⟨_, _, rfl⟩, fun j hj => absurd hj (by omega)⟩ (fun _ _ _ _ _ => trivial) ?_ ?_
      · rintro i x σ' H1 H2 hi ⟨rfl, ⟨x', y', rfl⟩, hn⟩ ⟨rfl, rfl⟩
        have hi2 : i < st.natAbs := hi
        refine ⟨_, rfl, _, rfl, _, _, rfl, rfl, .inl ⟨by omega, by omega⟩, ?_⟩
        refine ⟨_, rfl, p, _, dx, _, _, rfl, hp, T.c_LineWork, T.na_LineWork_half, rfl, _, _, rfl, rfl, .inl ⟨by omega, by omega⟩, _, _, rfl, rfl, ?_⟩
        have e0 : firstL d s far place st + (0 + (i : Int)) * 2 * d = firstL d s far place st + (i : Int) * 2 * d := by rw [Int.zero_add]
        refine ⟨_, rfl, _, rfl, _, rfl, _, _, rfl, rfl, by rw [ab]; omega, rfl, _, rfl, ?_⟩
        rw [ab, e0]
        by_cases hz : (firstL d s far place st + (i : Int) * 2 * d) % (st.natAbs : Int) = 0
        · refine iteTd (decide_eq_true (congrArg V.int hz)) ⟨_, rfl, _, rfl, _, rfl, _, _, rfl, rfl, by rw [ab]; exact ⟨by omega, by omega⟩, ?_⟩
          rw [ab, e0]
          have ft : (List.range st.natAbs).find? (fun (r : Nat) => decide ((firstL d s far place st + (r : Int) * 2 * d) % (st.natAbs : Int) = 0)) = some i := by
            rw [List.find?_eq_some_iff_getElem]
            refine ⟨decide_eq_true hz, i, by rw [List.length_range]; exact hi2, by rw [List.getElem_range], fun j hj => ?_⟩
            rw [List.getElem_range, hn j hj]
            rfl
          have k' := k
          unfold timesTo at k'
          rw [ft] at k'
          exact k'
        · refine iteFd (dec_ne fun z => hz (V.int.inj z)) ⟨rfl, ⟨_, _, rfl⟩, fun j hj => ?_⟩
          rcases Nat.lt_succ_iff_lt_or_eq.mp hj with hj | rfl
          · exact hn j hj
          · exact decide_eq_false hz
      · rintro σ' H1 ⟨rfl, ⟨x', y', rfl⟩, hn⟩
        have ft : (List.range st.natAbs).find? (fun (r : Nat) => decide ((firstL d s far place st + (r : Int) * 2 * d) % (st.natAbs : Int) = 0)) = none := by
          refine List.find?_eq_none.mpr fun j hj => ?_
          rw [hn j (List.mem_range.mp hj)]
          exact Bool.false_ne_true
        have k' := k
        unfold timesTo at k'
        rw [ft] at k'
        exact k'
    · refine ⟨_, rfl, _, _, rfl, rfl, _, rfl, iteFd (decide_eq_false h0) ⟨_, rfl, _, rfl, _, rfl, p, _, dx, _, _, rfl, hp, T.c_LineWork, T.na_LineWork_half, rfl, _, _, rfl, rfl, .inl ⟨by decide, by decide⟩, _, _, rfl, rfl, by show (0 : Int) < 2 * d; omega, ?_⟩⟩
      have ef : (-(place - spotL d s far)) % (2 * d) = firstL d s far place st := by unfold firstL; rw [if_neg h0]
      dsimp only
      rw [ef]
      refine ⟨_, rfl, _, rfl, _, rfl, by rw [ab]; omega, by rw [ab]; omega, ?_⟩
      rw [ab]
      refine for_it walk_range (fun i σ' H' => H' = H ∧ (∃ x y, σ' = [some (.ref p), some (.str (wS far)), some (.int place), some (.int st), some (.int (place - spotL d s far)), some (.int (firstL d s far place st)), x, y]) ∧
        ∀ j < i, decide ((firstL d s far place st + (j : Int) * 2 * d) % (st.natAbs : Int) = 0) = false) ⟨rfl, ⟨_, _, rfl⟩, fun j hj => absurd hj (by omega)⟩ (fun _ _ _ _ _ => trivial) ?_ ?_
      · rintro i x σ' H1 H2 hi ⟨rfl, ⟨x', y', rfl⟩, hn⟩ ⟨rfl, rfl⟩
        have hi2 : i < st.natAbs := hi
        refine ⟨_, rfl, _, rfl, _, _, rfl, rfl, .inl ⟨by omega, by omega⟩, ?_⟩
        refine ⟨_, rfl, p, _, dx, _, _, rfl, hp, T.c_LineWork, T.na_LineWork_half, rfl, _, _, rfl, rfl, .inl ⟨by omega, by omega⟩, _, _, rfl, rfl, ?_⟩
        have e0 : firstL d s far place st + (0 + (i : Int)) * 2 * d = firstL d s far place st + (i : Int) * 2 * d := by rw [Int.zero_add]
        refine ⟨_, rfl, _, rfl, _, rfl, _, _, rfl, rfl, by rw [ab]; omega, rfl, _, rfl, ?_⟩
        rw [ab, e0]
        by_cases hz : (firstL d s far place st + (i : Int) * 2 * d) % (st.natAbs : Int) = 0
        · refine iteTd (decide_eq_true (congrArg V.int hz)) ⟨_, rfl, _, rfl, _, rfl, _, _, rfl, rfl, by rw [ab]; exact ⟨by omega, by omega⟩, ?_⟩
          rw [ab, e0]
          have ft : (List.range st.natAbs).find? (fun (r : Nat) => decide ((firstL d s far place st + (r : Int) * 2 * d) % (st.natAbs : Int) = 0)) = some i := by
            rw [List.find?_eq_some_iff_getElem]
            refine ⟨decide_eq_true hz, i, by rw [List.length_range]; exact hi2, by rw [List.getElem_range], fun j hj => ?_⟩
            rw [List.getElem_range, hn j hj]
            rfl
          have k' := k
          unfold timesTo at k'
          rw [ft] at k'
          exact k'
        · refine iteFd (dec_ne fun z => hz (V.int.inj z)) ⟨rfl, ⟨_, _, rfl⟩, fun j hj => ?_⟩
          rcases Nat.lt_succ_iff_lt_or_eq.mp hj with hj | rfl
          · exact hn j hj
          · exact decide_eq_false hz
      · rintro σ' H1 ⟨rfl, ⟨x', y', rfl⟩, hn⟩
        have ft : (List.range st.natAbs).find? (fun (r : Nat) => decide ((firstL d s far place st + (r : Int) * 2 * d) % (st.natAbs : Int) = 0)) = none := by
          refine List.find?_eq_none.mpr fun j hj => ?_
          rw [hn j (List.mem_range.mp hj)]
          exact Bool.false_ne_true
        have k' := k
        unfold timesTo at k'
        rw [ft] at k'
        exact k'
end
end Rln
end
section
set_option Elab.async false
set_option linter.all false
set_option maxRecDepth 100000
set_option maxHeartbeats 4000000
namespace Rln
open PySem PySem.Spec PyProof.Rows L2
section
variable {P : Program} {w : World} {K : PySem.W.Frag} {mg : Str → Option Value} {base : Heap}
abbrev N_LineWork_walk : List Str := ["self", "window", "step", "found", "times", "place", "one"]
theorem sc_LineWork_walk : FnScope N_LineWork_walk ["self", "window", "step"] (defScope s_LineWork_walk) := ⟨rfl, rfl, rfl, by decide +kernel, rfl, by decide +kernel, by decide +kernel⟩
def spWalkL (K : PySem.W.Frag) : Sp := fun vs H Q E => ∃ far st, spLW K [.str (wS far), .int st] (fun d s => tellPL d s (.walk far st)) (fun _ s => s.hung.length ≤ 100 ∧ st ≠ 0 ∧ -6 ≤ st ∧ st ≤ 6) valT vs H Q E
theorem filterMap_take_succ {α β : Type} (f : α → Option β) (l : List α) (i : Nat) (h : i < l.length) : (l.take (i + 1)).filterMap f = (l.take i).filterMap f ++ (f l[i]).toList := by
  rw [List.take_succ_eq_append_getElem h, List.filterMap_append]
  congr 1
theorem met_walkL (T : Tx K mg) : Met P w K mg base 3 (cLW K) "walk" (spWalkL K) [] := by
  refine metD T.f_LineWork_walk T.c_LineWork T.m_LineWork_walk sc_LineWork_walk (fun vs H Q E h => ?_) (fun _ _ _ _ _ _ us hl => match us, hl with | [_, _, _], _ => rfl) (fun cdv A outer s H vs Q E hr h => ?_)
  · obtain ⟨far, tk, p, h, d, s, rfl, _⟩ := h
    rfl
  · obtain ⟨far, st, p, h, d, s, rfl, L, ok, ⟨hl, n0, n1, n2⟩, k⟩ := h
    have hu := hu_of hr
    refine ⟨_, (pss_cons (ps_lock (ps_setLc (i := 3) (own := [("place", 5)]) rfl sc_LineWork_walk.nd rfl rfl (sw_true rfl rfl rfl (by decide +kernel)) (pi_values (pe_fld (pv 0) rfl)) (blkOk_by (N := N_LineWork_walk) (sc := defScope s_LineWork_walk) (own := [("place", 5)]) (by decide +kernel)) (fun _ _ _ _ _ => (pg_name (i := 5) sc_LineWork_walk.nd rfl (Or.inl rfl))) (fun _ _ _ _ _ => pts_nil) (fun _ _ _ _ _ => (C8.pe_mt (met_times T) hr (by decide) (pv 0) (pa_cons (pv 1) (pa_cons (pv 5) (pa_cons (pv 2) pa_nil)))))))
      (pss_cons (ps_set (i := 4) sc_LineWork_walk.nd rfl (Or.inl rfl) (pe_callBK (crk_minD rfl hr.units) (by rfl) T.n_min (by decide +kernel) (pa_cons (pe_lc (own := [("one", 6)]) rfl sc_LineWork_walk.nd (pi_list (pv 3)) (blkOk_by (N := N_LineWork_walk) (sc := defScope s_LineWork_walk) (own := [("one", 6)]) (by decide +kernel)) (fun _ _ _ _ _ => (pg_name (i := 6) sc_LineWork_walk.nd rfl (Or.inl rfl))) (fun _ _ _ _ _ => pts_one (pt_cmpR op_notN (pv 6) pe_non (nomark _))) (fun _ _ _ _ _ => (pv 6))) pa_nil) (pk_cons pe_non pk_nil)))
      (pss_cons (ps_if (pt_cmpR op_notN (pv 4) pe_non (nomark _)) (pss_one (ps_expr (C8.pe_mt (met_shift T) hr (by decide) (pv 0) (pa_cons (pe_op op_mul (pv 4) (pv 2)) pa_nil)))) pss_nil)
      (pss_one (ps_ret (pv 4)))))), ?_⟩
    obtain ⟨dx, n, hp, hh⟩ := id L
    have d1 := ok.d1
    have nph : p ≠ h := Ne.symm L.ne
    have hlen : (hungV s.hung).length = s.hung.length := List.length_map ..
    refine ⟨h, _, hh, trivial, fun od => ?_⟩
    have hp1 : upd H h (.frz od (.dK (hungV s.hung))) p = some (.ins (cLW K) dx [("half", .int d), ("stand", .int s.stand), ("hung", .ref h), ("lengths", .int n)]) := by
      rw [upd_ne nph]
      exact hp
    refine ⟨_, rfl, p, _, dx, _, _, rfl, hp1, T.c_LineWork, T.na_LineWork_hung, rfl, h, od, _, rfl, upd_same, fun D hD => lc_it walk_values
      (fun i H' => Same (upd H h (.frz od (.dK (hungV s.hung)))) H' ∧ H' D = some (.lst ((s.hung.take i).map fun q => optI (timesTo d s far q.2 st)))) ⟨Same.new hD, upd_same⟩ (fun _ _ _ hP => hP.1 _ _ upd_same) ?_ ?_⟩
    · rintro i x H1 H2 hi ⟨e1, hl1⟩ ⟨rfl, key, hk⟩
      have hi' : i < s.hung.length := by omega
      have eq0 : s.hung[i]? = some s.hung[i] := List.getElem?_eq_getElem hi'
      have eq1 : (hungV s.hung)[i]? = some (Sum.inr s.hung[i].1, V.int s.hung[i].2) := by
        unfold hungV
        rw [List.getElem?_map, eq0]
        rfl
      rw [eq1] at hk
      cases hk
      refine ⟨rfl, lcYes (iteT ?_)⟩
      refine ⟨_, rfl, p, dx, _, rfl, e1 _ _ hp1, rfl, _, rfl, _, rfl, _, rfl, p, h, d, s, far, s.hung[i].2, st, rfl, ⟨dx, n, e1 _ _ hp1⟩, d1, n0, n1, n2, _, hl1, ?_, e1.put hD, ?_⟩
      · rw [List.length_map, List.length_take, sizeLine_eq]
        omega
      · rw [upd_same, List.take_succ_eq_append_getElem hi', List.map_append]
        rfl
    · rintro H1 ⟨e1, hl1⟩
      rw [hlen, List.take_length] at hl1
      have nD : D ≠ h := Ne.symm (ne_of_none upd_same hD)
      refine ⟨e1 _ _ upd_same, ?_⟩
      have e2 : Same H (upd H1 h (.dK (hungV s.hung))) := fun b u z => by
        by_cases hb : b = h
        · subst hb
          rw [upd_same, ← hh]
          exact z
        · rw [upd_ne hb]
          exact e1 b u (by rw [upd_ne hb]; exact z)
      have hl2 : upd H1 h (.dK (hungV s.hung)) D = some (.lst (s.hung.map fun q => optI (timesTo d s far q.2 st))) := by
        rw [upd_ne nD]
        exact hl1
      generalize upd H1 h (.dK (hungV s.hung)) = H2 at e2 hl2
      refine ⟨_, rfl, D, rfl, ⟨_, SqL.of hl2⟩, fun D2 hD2 => lc_it walk_list (fun i H' => Same H2 H' ∧ H' D2 = some (.lst (((s.hung.take i).filterMap fun q => timesTo d s far q.2 st).map V.int))) ⟨Same.new hD2, upd_same⟩ (fun _ _ _ hP => SqL.of (hP.1 _ _ hl2)) ?_ ?_⟩
      · rintro i x H3 H4 hi ⟨e3, hl3⟩ ⟨rfl, hk⟩
        have hi' : i < s.hung.length := by rw [List.length_map] at hi; exact hi
        rw [List.getElem?_map, List.getElem?_eq_getElem hi'] at hk
        cases hk
        refine ⟨rfl, ⟨_, rfl, rfl, _, rfl, ?_⟩⟩
        rw [filterMap_take_succ _ _ _ hi']
        cases et : timesTo d s far s.hung[i].2 st with
        | none =>
          refine iteFd (by show (!decide (optI (timesTo d s far s.hung[i].2 st) = V.non)) = false; rw [et]; rfl) ⟨e3, ?_⟩
          rw [hl3]
          simp
        | some m =>
          refine iteTd (by show (!decide (optI (timesTo d s far s.hung[i].2 st) = V.non)) = true; rw [et]; rfl) ⟨_, rfl, _, hl3, ?_, e3.put hD2, ?_⟩
          · rw [List.length_map]
            have := List.length_filterMap_le (fun q : Str × Int => timesTo d s far q.2 st) (s.hung.take i)
            rw [List.length_take] at this
            rw [sizeLine_eq]
            omega
          · rw [upd_same]
            show some (HO.lst (_ ++ [optI (timesTo d s far s.hung[i].2 st)])) = _
            rw [et]
            simp [optI]
      · rintro H3 ⟨e3, hl3⟩
        rw [List.length_map, List.take_length] at hl3
        have e4 := e2.trans e3
        have L3 := L.mono e4
        obtain ⟨dx3, n3, hp3, hh3⟩ := id L3
        refine ⟨D2, s.hung.filterMap fun q => timesTo d s far q.2 st, rfl, rfl, SqL.of hl3, fun en => ?_, fun m r en => ?_⟩
        · have k' := k H3 (Same.sx2 e4)
          dsimp only at k'
          rw [show tellPL d s (.walk far st) = (s, .non) by simp only [tellPL, en, minI]] at k'
          exact ⟨_, rfl, rfl, _, rfl, iteF ⟨_, rfl, k' L3⟩⟩
        · refine ⟨_, rfl, rfl, _, rfl, iteT ?_⟩
          refine ⟨_, rfl, p, dx3, _, rfl, hp3, rfl, _, rfl, _, rfl, _, _, rfl, rfl, ?_, p, h, d, s, _, rfl, L3, d1, fun H5 e5 L5 => ?_⟩
          · exact .inr ⟨by omega, by omega⟩
          · have k' := k H5 ((Same.sx2 e4).trans e5)
            dsimp only at k'
            rw [show tellPL d s (.walk far st) = (shiftL d s (r.foldl min m * st), .int (r.foldl min m)) by simp only [tellPL, en, minI]] at k'
            exact ⟨_, rfl, k' L5⟩
end
end Rln
end
section
set_option Elab.async false
set_option linter.all false
set_option maxRecDepth 100000
set_option maxHeartbeats 4000000
namespace Rln
open PySem PySem.Spec PyProof.Rows L2
/-! ### the line stays well-formed -/
theorem sub_len {α : Type} [DecidableEq α] : ∀ {l m : List α}, l.Nodup → (∀ x ∈ l, x ∈ m) → l.length ≤ m.length
  | [], _, _, _ => Nat.zero_le _
  | a :: l, m, h, hs => by
    rw [List.nodup_cons] at h
    have hm : a ∈ m := hs a (List.mem_cons_self ..)
    have := sub_len (m := m.erase a) h.2 fun x hx => (List.mem_erase_of_ne (fun e => h.1 (by rw [← e]; exact hx))).mpr (hs x (List.mem_cons_of_mem _ hx))
    rw [List.length_erase_of_mem hm] at this
    have : 0 < m.length := List.length_pos_of_mem hm
    rw [List.length_cons]
    omega
theorem LWOkB.len {D d : Int} {s : LW Str} (ok : LWOkB D d s) : s.hung.length ≤ 4 := by
  have := sub_len (m := (["a", "sock", "zzzzzzzz", "shirt"] : List Str)) ok.nd fun x hx => by
    obtain ⟨q, hq, rfl⟩ := List.mem_map.mp hx
    rcases (ok.gd q hq).1 with e | e | e | e <;> rw [e] <;> decide +kernel
  rw [List.length_map] at this
  exact this
theorem nodup_map_inj {α β : Type} {f : α → β} : ∀ {l : List α}, l.Nodup → (∀ x ∈ l, ∀ y ∈ l, f x = f y → x = y) → (l.map f).Nodup
  | [], _, _ => List.nodup_nil
  | a :: l, h, hi => by
    rw [List.nodup_cons] at h
    rw [List.map_cons, List.nodup_cons]
    refine ⟨fun hm => ?_, nodup_map_inj h.2 fun x hx y hy => hi x (List.mem_cons_of_mem _ hx) y (List.mem_cons_of_mem _ hy)⟩
    obtain ⟨b, hb, e⟩ := List.mem_map.mp hm
    have := hi b (List.mem_cons_of_mem _ hb) a (List.mem_cons_self ..) e
    subst this
    exact h.1 hb
theorem whoAt_none {l : List (Str × Int)} {x : Int} : whoAt l x = none ↔ x ∉ l.map (·.2) := by
  unfold whoAt
  rw [Option.map_eq_none_iff, List.find?_eq_none]
  constructor
  · intro h hm
    obtain ⟨q, hq, rfl⟩ := List.mem_map.mp hm
    exact h q hq (decide_eq_true rfl)
  · intro h q hq e
    exact h (List.mem_map.mpr ⟨q, hq, of_decide_eq_true e⟩)
theorem getK_none {α : Type} {l : List (Str × α)} {t : Str} : getK l t = none ↔ t ∉ l.map (·.1) := by
  unfold getK
  rw [Option.map_eq_none_iff, List.find?_eq_none]
  constructor
  · intro h hm
    obtain ⟨q, hq, rfl⟩ := List.mem_map.mp hm
    exact h q hq (decide_eq_true rfl)
  · intro h q hq e
    exact h (List.mem_map.mpr ⟨q, hq, of_decide_eq_true e⟩)
theorem getK_mem {α : Type} {l : List (Str × α)} {t : Str} {n : α} (h : getK l t = some n) : (t, n) ∈ l := by
  unfold getK at h
  cases e : l.find? fun p => decide (p.1 = t) with
  | none => rw [e] at h; cases h
  | some q =>
    rw [e] at h
    cases h
    have h1 := List.mem_of_find?_eq_some e
    have h2 : q.1 = t := of_decide_eq_true (List.find?_some (p := fun (p : Str × α) => decide (p.1 = t)) e)
    rw [← h2]
    exact h1
/-- some place of the first hung + 1 is free -/
theorem free_ex {D d : Int} {s : LW Str} (ok : LWOkB D d s) (far : Bool) (hne : (s.hung.length : Int) ≠ 2 * d) : ∃ i, i ≤ s.hung.length ∧ freeL d s far i = true := by
  have d1 := ok.d1
  have hlt : (s.hung.length : Int) < 2 * d := by
    have := sub_len (m := (List.range (2 * d).toNat).map fun (i : Nat) => (i : Int)) ok.pl fun x hx => by
      obtain ⟨q, hq, rfl⟩ := List.mem_map.mp hx
      have := (ok.gd q hq).2
      exact List.mem_map.mpr ⟨q.2.toNat, List.mem_range.mpr (by omega), by omega⟩
    rw [List.length_map, List.length_map, List.length_range] at this
    omega
  refine Classical.byContradiction fun hn => ?_
  have occ : ∀ i, i ≤ s.hung.length → (s.stand + (i : Int) + if far then d else 0) % (2 * d) ∈ s.hung.map (·.2) := fun i hi => by
    refine Classical.byContradiction fun hm => hn ⟨i, hi, ?_⟩
    unfold freeL
    rw [whoAt_none.mpr hm]
    rfl
  have nd : ((List.range (s.hung.length + 1)).map fun (i : Nat) => (s.stand + (i : Int) + if far then d else 0) % (2 * d)).Nodup := by
    refine nodup_map_inj List.nodup_range fun x hx y hy e => ?_
    have hx := List.mem_range.mp hx
    have hy := List.mem_range.mp hy
    have hd : (2 * d) ∣ ((x : Int) - y) := by
      have := Int.emod_emod_of_dvd (s.stand + (x : Int) + if far then d else 0) (Int.dvd_refl (2 * d))
      have h3 := Int.emod_eq_emod_iff_emod_sub_eq_zero.mp e
      have h4 := Int.dvd_of_emod_eq_zero h3
      have h5 : (s.stand + (x : Int) + if far then d else 0) - (s.stand + (y : Int) + if far then d else 0) = (x : Int) - y := by omega
      rw [h5] at h4
      exact h4
    obtain ⟨k, hk⟩ := hd
    have : k = 0 := by
      rcases Int.lt_trichotomy k 0 with z | z | z
      · exfalso
        have : 2 * d * k ≤ 2 * d * (-1) := Int.mul_le_mul_of_nonneg_left (by omega) (by omega)
        omega
      · exact z
      · exfalso
        have : 2 * d * 1 ≤ 2 * d * k := Int.mul_le_mul_of_nonneg_left (by omega) (by omega)
        omega
    rw [this, Int.mul_zero] at hk
    omega
  have := sub_len nd fun x hx => by
    obtain ⟨i, hi, rfl⟩ := List.mem_map.mp hx
    exact occ i (by have := List.mem_range.mp hi; omega)
  rw [List.length_map, List.length_map, List.length_range] at this
  omega
theorem LWOkB.move {D d : Int} {s : LW Str} (ok : LWOkB D d s) (n : Int) : LWOkB D d ⟨n % (2 * d), s.hung⟩ :=
  ⟨ok.d1, ok.d2, Int.emod_nonneg _ (by have := ok.d1; omega), Int.emod_lt_of_pos _ (by have := ok.d1; omega), ok.nd, ok.pl, ok.gd⟩
theorem LWOkB.put {D d : Int} {s : LW Str} (ok : LWOkB D d s) {t : Str} {n : Int} (h1 : getK s.hung t = none) (h2 : whoAt s.hung n = none) (ht : goodT t) (n0 : 0 ≤ n) (n1 : n < 2 * d) : LWOkB D d ⟨s.stand, s.hung ++ [(t, n)]⟩ := by
  refine ⟨ok.d1, ok.d2, ok.s1, ok.s2, ?_, ?_, fun q hq => ?_⟩
  · rw [List.map_append, List.nodup_append]
    refine ⟨ok.nd, by simp, fun a ha b hb => ?_⟩
    have hb : b = t := by simpa using hb
    subst hb
    exact fun e => getK_none.mp h1 (e ▸ ha)
  · rw [List.map_append, List.nodup_append]
    refine ⟨ok.pl, by simp, fun a ha b hb => ?_⟩
    have hb : b = n := by simpa using hb
    subst hb
    exact fun e => whoAt_none.mp h2 (e ▸ ha)
  · rcases List.mem_append.mp hq with hq | hq
    · exact ok.gd q hq
    · have hq : q = (t, n) := by simpa using hq
      subst hq
      exact ⟨ht, n0, n1⟩
theorem LWOkB.del {D d : Int} {s : LW Str} (ok : LWOkB D d s) (t : Str) : LWOkB D d ⟨s.stand, delK s.hung t⟩ :=
  ⟨ok.d1, ok.d2, ok.s1, ok.s2, (List.filter_sublist.map _).nodup ok.nd, (List.filter_sublist.map _).nodup ok.pl, fun q hq => ok.gd q (List.mem_filter.mp hq).1⟩
theorem emod_in {a d : Int} (hd : 1 ≤ d) : 0 ≤ a % (2 * d) ∧ a % (2 * d) < 2 * d := ⟨Int.emod_nonneg _ (by omega), Int.emod_lt_of_pos _ (by omega)⟩
theorem LWOkB.step {D d : Int} {s : LW Str} {p : PD Str} (ok : LWOkB D d s) (hp : pdOk p) : LWOkB D d (tellPL d s p).1 := by
  have d1 := ok.d1
  cases p with
  | pull n => exact ok.move _
  | peg far t =>
    dsimp only [tellPL]
    split
    · exact ok
    · next hc =>
      rw [Bool.or_eq_true, not_or] at hc
      exact ok.put (by simpa using hc.1) (by have := hc.2; unfold thingL at this; simpa using this) hp (emod_in d1).1 (emod_in d1).2
  | hang far t =>
    dsimp only [tellPL]
    split
    · exact ok
    · next hc =>
      rw [Bool.or_eq_true, not_or] at hc
      have hf := firstN_ok (free_ex ok far (by simpa using hc.2))
      have hf : freeL d s far (nL d s far) = true := hf
      unfold freeL at hf
      exact (ok.move (s.stand + (nL d s far : Int))).put (by simpa using hc.1) (by simpa using hf) hp (emod_in d1).1 (emod_in d1).2
  | fetch far t =>
    dsimp only [tellPL]
    split
    · exact ok
    · exact ok.move _
  | walk far st =>
    dsimp only [tellPL]
    split
    · exact ok
    · exact ok.move _
  | take far =>
    dsimp only [tellPL]
    split
    · exact ok
    · exact ok.del _
  | look far =>
    dsimp only [tellPL]
    split
    · exact ok
    · exact ok
theorem LWOkB.stepD {D d : Int} {s : LW Str} {x : Deed Str} (ok : LWOkB D d s) (hp : deedOk x) : LWOkB D d (tellL d s x).1 := by
  cases x with
  | pl p => exact ok.step hp
  | whn f wh p =>
    dsimp only [tellL]
    split
    · exact ok.step hp.2
    · exact ok
theorem LWOkB.start {D d : Int} (h1 : 1 ≤ d) (h2 : d < D) : LWOkB D d lw0 := ⟨h1, h2, Int.le_refl _, by show (0 : Int) < 2 * d; omega, List.nodup_nil, List.nodup_nil, fun q hq => nomatch hq⟩
theorem LWOk.start {d : Int} (h1 : 1 ≤ d) (h2 : d < 2 ^ 16) : LWOk d lw0 := LWOkB.start h1 h2
end Rln
end
section
set_option Elab.async false
set_option linter.all false
set_option maxRecDepth 100000
set_option maxHeartbeats 4000000
namespace Rln
open PySem PySem.Spec PyProof.Rows L2
theorem DAt.sx2 {K : PySem.W.Frag} {H H' : Hp} {p h : Addr} {d : Int} {s : LW Str} {v : V} {x : Deed Str} (e : Sx2 p h H H') (L : LWAt K H p h d s) (D : DAt H v x) : DAt H' v x := by
  obtain ⟨dx, n, hp, hh⟩ := L
  have t : ∀ {a : Addr} {xs : List V}, H a = some (.tup xs) → H' a = some (.tup xs) := fun {a xs} z => e _ _ (ne_of z hp (by intro z; cases z)) (ne_of z hh (by intro z; cases z)) z
  cases x with
  | pl p =>
    obtain ⟨a, rfl, h⟩ := D
    exact ⟨a, rfl, t h⟩
  | whn f w p =>
    obtain ⟨a, b, rfl, h1, h2⟩ := D
    exact ⟨a, b, rfl, t h1, t h2⟩
section
variable {P : Program} {w : World} {K : PySem.W.Frag} {mg : Str → Option Value} {base : Heap}
def spTell (K : PySem.W.Frag) : Sp := fun vs H Q _ => ∃ p h d s v x, vs = [.ref p, v] ∧ DAt H v x ∧ deedOk x ∧ LWAt K H p h d s ∧ LWOk d s ∧
  ∀ H', Sx2 p h H H' → LWAt K H' p h d (tellL d s x).1 → Q (valT (tellL d s x).2) H'
def spTell0 (K : PySem.W.Frag) : Sp := fun vs H Q _ => ∃ p h d s a x, vs = [.ref p, .ref a] ∧ H a = some (.tup (pdV x)) ∧ pdOk x ∧ LWAt K H p h d s ∧ LWOk d s ∧
  ∀ H', Sx2 p h H H' → LWAt K H' p h d (tellPL d s x).1 → Q (valT (tellPL d s x).2) H'
abbrev N_LineWork_tell : List Str := ["self", "deed", "word"]
theorem sc_LineWork_tell : FnScope N_LineWork_tell ["self", "deed"] (defScope s_LineWork_tell) := ⟨rfl, rfl, rfl, by decide +kernel, rfl, by decide +kernel, by decide +kernel⟩
theorem body_tell0 (T : Tx K mg) : BodyOk P w K mg base "LineWork.tell" s_LineWork_tell N_LineWork_tell (He.fAd K ("LineWork", some "tell")) 3 (spTell0 K) := fun cdv A outer s H vs Q E hr h => by
    obtain ⟨p, h, d, s, a, x, rfl, ha, hx, L, ok, k⟩ := h
    refine ⟨_, (pss_cons (ps_set (i := 2) sc_LineWork_tell.nd rfl (Or.inl rfl) (pe_ix ix_tup (pv 1) pe_int (fun _ _ => rfl)))
      (pss_cons (ps_if (pt_cmpR op_eq (pv 2) pe_str (nomark _)) (pss_one (ps_never)) pss_nil)
      (pss_cons (ps_if (pt_cmpR op_eq (pv 2) pe_str (nomark _)) (pss_cons (ps_expr (C8.pe_mt (met_shift T) hr (by decide) (pv 0) (pa_cons (pe_ix ix_tup (pv 1) pe_int (fun _ _ => rfl)) pa_nil)))
      (pss_one (ps_ret pe_bl))) pss_nil)
      (pss_cons (ps_if (pt_cmpR op_eq (pv 2) pe_str (nomark _)) (pss_one (ps_ret (C8.pe_mt (met_pegL T) hr (by decide) (pv 0) (pa_cons (pe_ix ix_tup (pv 1) pe_int (fun _ _ => rfl)) (pa_cons (pe_ix ix_tup (pv 1) pe_int (fun _ _ => rfl)) pa_nil))))) pss_nil)
      (pss_cons (ps_if (pt_cmpR op_eq (pv 2) pe_str (nomark _)) (pss_one (ps_ret (C8.pe_mt (met_hangL T) hr (by decide) (pv 0) (pa_cons (pe_ix ix_tup (pv 1) pe_int (fun _ _ => rfl)) (pa_cons (pe_ix ix_tup (pv 1) pe_int (fun _ _ => rfl)) pa_nil))))) pss_nil)
      (pss_cons (ps_if (pt_cmpR op_eq (pv 2) pe_str (nomark _)) (pss_one (ps_ret (C8.pe_mt (met_fetchL T) hr (by decide) (pv 0) (pa_cons (pe_ix ix_tup (pv 1) pe_int (fun _ _ => rfl)) (pa_cons (pe_ix ix_tup (pv 1) pe_int (fun _ _ => rfl)) pa_nil))))) pss_nil)
      (pss_cons (ps_if (pt_cmpR op_eq (pv 2) pe_str (nomark _)) (pss_one (ps_ret (C8.pe_mt (met_walkL T) hr (by decide) (pv 0) (pa_cons (pe_ix ix_tup (pv 1) pe_int (fun _ _ => rfl)) (pa_cons (pe_ix ix_tup (pv 1) pe_int (fun _ _ => rfl)) pa_nil))))) pss_nil)
      (pss_one (ps_ret (C8.pe_mt (met_lookL T) hr (by decide) (pv 0) (pa_cons (pe_ix ix_tup (pv 1) pe_int (fun _ _ => rfl)) (pa_cons (pe_cmpR op_eq (pv 2) pe_str (nomark _)) pa_nil)))))))))))), ?_⟩
    obtain ⟨dx, n, hp, hh⟩ := id L
    have d1 := ok.d1
    have len := ok.len
    cases x with
    | pull m =>
      refine ⟨_, rfl, a, _, _, _, rfl, rfl, SqT.of ha, rfl, ?_⟩
      refine ⟨_, rfl, rfl, _, rfl, iteFd (by decide +kernel) ⟨_, rfl, rfl, _, rfl, iteTd (by decide +kernel) ?_⟩⟩
      refine ⟨_, rfl, p, dx, _, rfl, hp, rfl, _, rfl, a, _, _, _, rfl, rfl, SqT.of ha, rfl, p, h, d, s, _, rfl, L, d1, fun H1 e1 L1 => ?_⟩
      exact k H1 e1 L1
    | peg far t =>
      refine ⟨_, rfl, a, _, _, _, rfl, rfl, SqT.of ha, rfl, ?_⟩
      refine ⟨_, rfl, rfl, _, rfl, iteFd (by decide +kernel) ⟨_, rfl, rfl, _, rfl, iteFd (by decide +kernel) ⟨_, rfl, rfl, _, rfl, iteTd (by decide +kernel) ?_⟩⟩⟩
      refine ⟨_, rfl, p, dx, _, rfl, hp, rfl, _, rfl, a, _, _, _, rfl, rfl, SqT.of ha, rfl, _, rfl, a, _, _, _, rfl, rfl, SqT.of ha, rfl, far, t, p, h, d, s, rfl, L, ok, by omega, k⟩
    | hang far t =>
      refine ⟨_, rfl, a, _, _, _, rfl, rfl, SqT.of ha, rfl, ?_⟩
      refine ⟨_, rfl, rfl, _, rfl, iteFd (by decide +kernel) ⟨_, rfl, rfl, _, rfl, iteFd (by decide +kernel) ⟨_, rfl, rfl, _, rfl, iteFd (by decide +kernel) ⟨_, rfl, rfl, _, rfl, iteTd (by decide +kernel) ?_⟩⟩⟩⟩
      refine ⟨_, rfl, p, dx, _, rfl, hp, rfl, _, rfl, a, _, _, _, rfl, rfl, SqT.of ha, rfl, _, rfl, a, _, _, _, rfl, rfl, SqT.of ha, rfl, far, t, p, h, d, s, rfl, L, ok, ⟨by omega, free_ex ok far⟩, k⟩
    | fetch far t =>
      refine ⟨_, rfl, a, _, _, _, rfl, rfl, SqT.of ha, rfl, ?_⟩
      refine ⟨_, rfl, rfl, _, rfl, iteFd (by decide +kernel) ⟨_, rfl, rfl, _, rfl, iteFd (by decide +kernel) ⟨_, rfl, rfl, _, rfl, iteFd (by decide +kernel) ⟨_, rfl, rfl, _, rfl, iteFd (by decide +kernel) ⟨_, rfl, rfl, _, rfl, iteTd (by decide +kernel) ?_⟩⟩⟩⟩⟩
      refine ⟨_, rfl, p, dx, _, rfl, hp, rfl, _, rfl, a, _, _, _, rfl, rfl, SqT.of ha, rfl, _, rfl, a, _, _, _, rfl, rfl, SqT.of ha, rfl, far, t, p, h, d, s, rfl, L, ok, trivial, k⟩
    | walk far st =>
      refine ⟨_, rfl, a, _, _, _, rfl, rfl, SqT.of ha, rfl, ?_⟩
      refine ⟨_, rfl, rfl, _, rfl, iteFd (by decide +kernel) ⟨_, rfl, rfl, _, rfl, iteFd (by decide +kernel) ⟨_, rfl, rfl, _, rfl, iteFd (by decide +kernel) ⟨_, rfl, rfl, _, rfl, iteFd (by decide +kernel) ⟨_, rfl, rfl, _, rfl, iteFd (by decide +kernel) ⟨_, rfl, rfl, _, rfl, iteTd (by decide +kernel) ?_⟩⟩⟩⟩⟩⟩
      refine ⟨_, rfl, p, dx, _, rfl, hp, rfl, _, rfl, a, _, _, _, rfl, rfl, SqT.of ha, rfl, _, rfl, a, _, _, _, rfl, rfl, SqT.of ha, rfl, far, st, p, h, d, s, rfl, L, ok, ⟨by omega, hx.1, hx.2.1, hx.2.2⟩, k⟩
    | take far =>
      refine ⟨_, rfl, a, _, _, _, rfl, rfl, SqT.of ha, rfl, ?_⟩
      refine ⟨_, rfl, rfl, _, rfl, iteFd (by decide +kernel) ⟨_, rfl, rfl, _, rfl, iteFd (by decide +kernel) ⟨_, rfl, rfl, _, rfl, iteFd (by decide +kernel) ⟨_, rfl, rfl, _, rfl, iteFd (by decide +kernel) ⟨_, rfl, rfl, _, rfl, iteFd (by decide +kernel) ⟨_, rfl, rfl, _, rfl, iteFd (by decide +kernel) ?_⟩⟩⟩⟩⟩⟩
      refine ⟨_, rfl, p, dx, _, rfl, hp, rfl, _, rfl, a, _, _, _, rfl, rfl, SqT.of ha, rfl, _, rfl, rfl, far, true, _, ?_, p, h, d, s, rfl, L, ok, trivial, k⟩
      decide +kernel
    | look far =>
      refine ⟨_, rfl, a, _, _, _, rfl, rfl, SqT.of ha, rfl, ?_⟩
      refine ⟨_, rfl, rfl, _, rfl, iteFd (by decide +kernel) ⟨_, rfl, rfl, _, rfl, iteFd (by decide +kernel) ⟨_, rfl, rfl, _, rfl, iteFd (by decide +kernel) ⟨_, rfl, rfl, _, rfl, iteFd (by decide +kernel) ⟨_, rfl, rfl, _, rfl, iteFd (by decide +kernel) ⟨_, rfl, rfl, _, rfl, iteFd (by decide +kernel) ?_⟩⟩⟩⟩⟩⟩
      refine ⟨_, rfl, p, dx, _, rfl, hp, rfl, _, rfl, a, _, _, _, rfl, rfl, SqT.of ha, rfl, _, rfl, rfl, far, false, _, ?_, p, h, d, s, rfl, L, ok, trivial, k⟩
      decide +kernel
theorem met_tell0 (T : Tx K mg) : Met P w K mg base 4 (cLW K) "tell" (spTell0 K) [] := by
  refine metD T.f_LineWork_tell T.c_LineWork T.m_LineWork_tell sc_LineWork_tell (fun vs H Q E h => ?_) (fun _ _ _ _ _ _ us hl => match us, hl with | [_, _], _ => rfl) (body_tell0 T)
  obtain ⟨p, h, d, s, a, x, rfl, _⟩ := h
  rfl
theorem scal_what (a b : Option Str) : scal (whatV a) (whatV b) = true := by cases a <;> cases b <;> rfl
theorem eq_what (a b : Option Str) : decide (whatV a = whatV b) = decide (a = b) := by
  cases a <;> cases b <;> simp [whatV]
theorem met_tell (T : Tx K mg) : Met P w K mg base 5 (cLW K) "tell" (spTell K) [] := by
  refine metD T.f_LineWork_tell T.c_LineWork T.m_LineWork_tell sc_LineWork_tell (fun vs H Q E h => ?_) (fun _ _ _ _ _ _ us hl => match us, hl with | [_, _], _ => rfl) (fun cdv A outer s H vs Q E hr h => ?_)
  · obtain ⟨p, h, d, s, a, x, rfl, _⟩ := h
    rfl
  · obtain ⟨p, h, d, s, v, x, rfl, hx, ho, L, ok, k⟩ := h
    cases x with
    | pl x =>
      obtain ⟨a, rfl, ha⟩ := hx
      exact body_tell0 T cdv A outer _ H _ Q E (hr.mono (by decide)) ⟨p, h, d, s, a, x, rfl, ha, ho, L, ok, k⟩
    | whn f wh x =>
      obtain ⟨a, b, rfl, ha, hb⟩ := hx
      refine ⟨_, (pss_cons (ps_set (i := 2) sc_LineWork_tell.nd rfl (Or.inl rfl) (pe_ix ix_tup (pv 1) pe_int (fun _ _ => rfl)))
      (pss_cons (ps_if (pt_cmpR op_eq (pv 2) pe_str (nomark _)) (pss_one (ps_ret (pe_ifExp (pt_cmpR op_eq (C8.pe_mt (met_thingL T) hr (by decide) (pv 0) (pa_cons (pe_ix ix_tup (pv 1) pe_int (fun _ _ => rfl)) pa_nil)) (pe_ix ix_tup (pv 1) pe_int (fun _ _ => rfl)) (nomark _)) (C8.pe_mt (met_tell0 T) hr (by decide) (pv 0) (pa_cons (pe_ix ix_tup (pv 1) pe_int (fun _ _ => rfl)) pa_nil)) pe_str))) pss_nil)
      (pss_cons (ps_if (pt_cmpR op_eq (pv 2) pe_str (nomark _)) (pss_cons (ps_expr (C8.pe_mt (met_shift T) hr (by decide) (pv 0) (pa_cons (pe_ix ix_tup (pv 1) pe_int (fun _ _ => rfl)) pa_nil)))
      (pss_one (ps_ret pe_bl))) pss_nil)
      (pss_cons (ps_if (pt_cmpR op_eq (pv 2) pe_str (nomark _)) (pss_one (ps_ret (C8.pe_mt (met_pegL T) hr (by decide) (pv 0) (pa_cons (pe_ix ix_tup (pv 1) pe_int (fun _ _ => rfl)) (pa_cons (pe_ix ix_tup (pv 1) pe_int (fun _ _ => rfl)) pa_nil))))) pss_nil)
      (pss_cons (ps_if (pt_cmpR op_eq (pv 2) pe_str (nomark _)) (pss_one (ps_ret (C8.pe_mt (met_hangL T) hr (by decide) (pv 0) (pa_cons (pe_ix ix_tup (pv 1) pe_int (fun _ _ => rfl)) (pa_cons (pe_ix ix_tup (pv 1) pe_int (fun _ _ => rfl)) pa_nil))))) pss_nil)
      (pss_cons (ps_if (pt_cmpR op_eq (pv 2) pe_str (nomark _)) (pss_one (ps_ret (C8.pe_mt (met_fetchL T) hr (by decide) (pv 0) (pa_cons (pe_ix ix_tup (pv 1) pe_int (fun _ _ => rfl)) (pa_cons (pe_ix ix_tup (pv 1) pe_int (fun _ _ => rfl)) pa_nil))))) pss_nil)
      (pss_cons (ps_if (pt_cmpR op_eq (pv 2) pe_str (nomark _)) (pss_one (ps_ret (C8.pe_mt (met_walkL T) hr (by decide) (pv 0) (pa_cons (pe_ix ix_tup (pv 1) pe_int (fun _ _ => rfl)) (pa_cons (pe_ix ix_tup (pv 1) pe_int (fun _ _ => rfl)) pa_nil))))) pss_nil)
      (pss_one (ps_ret (C8.pe_mt (met_lookL T) hr (by decide) (pv 0) (pa_cons (pe_ix ix_tup (pv 1) pe_int (fun _ _ => rfl)) (pa_cons (pe_cmpR op_eq (pv 2) pe_str (nomark _)) pa_nil)))))))))))), ?_⟩
      obtain ⟨dx, n, hp, hh⟩ := id L
      have d1 := ok.d1
      refine ⟨_, rfl, a, _, _, _, rfl, rfl, SqT.of ha, rfl, ?_⟩
      refine ⟨_, rfl, rfl, _, rfl, iteTd (by decide +kernel) ?_⟩
      refine ⟨_, rfl, p, dx, _, rfl, hp, rfl, _, rfl, a, _, _, _, rfl, rfl, SqT.of ha, rfl, p, h, d, s, f, rfl, L, d1, fun H1 e1 => ?_⟩
      have L1 := L.mono e1
      have e1 : Same H H1 := e1
      have ha1 := e1 _ _ ha
      have hb1 := e1 _ _ hb
      obtain ⟨dx, n, hp, hh⟩ := id L1
      refine ⟨_, rfl, a, _, _, _, rfl, rfl, SqT.of ha1, rfl, scal_what _ _, _, rfl, ?_⟩
      rw [eq_what]
      by_cases c : thingL d s f = wh
      · refine iteTd (decide_eq_true c) ⟨_, rfl, p, dx, _, rfl, hp, rfl, _, rfl, a, _, _, _, rfl, rfl, SqT.of ha1, rfl, p, h, d, s, b, x, rfl, hb1, ho.2, L1, ok, fun H2 e2 L2 => ?_⟩
        have k' := k H2 ((Same.sx2 e1).trans e2)
        simp only [tellL, c, if_true] at k'
        exact k' L2
      · have k' := k H1 (Same.sx2 e1)
        simp only [tellL, c, if_false] at k'
        exact iteFd (decide_eq_false c) (k' L1)
end
end Rln
end
section
set_option Elab.async false
set_option linter.all false
set_option maxRecDepth 100000
set_option maxHeartbeats 4000000
namespace Rln
open PySem PySem.Spec PyProof.Rows L2
/-- a tuple of deeds -/
def DsAt (K : PySem.W.Frag) (H : Hp) (v : V) (ds : List (Deed Str)) : Prop := ∃ a vs, v = .ref a ∧ SqT K H a vs ∧ vs.length = ds.length ∧ ∀ (i : Nat) x, ds[i]? = some x → ∃ u, vs[i]? = some u ∧ DAt H u x
theorem DsAt.mono {K : PySem.W.Frag} {H H' : Hp} {v : V} {ds : List (Deed Str)} (e : Same H H') (D : DsAt K H v ds) : DsAt K H' v ds := by
  obtain ⟨a, vs, rfl, h1, h2, h3⟩ := D
  refine ⟨a, vs, rfl, e.sqt h1, h2, fun i x hx => ?_⟩
  obtain ⟨u, hu, hd⟩ := h3 i x hx
  exact ⟨u, hu, hd.mono e⟩
theorem DsAt.sx2 {K : PySem.W.Frag} {H H' : Hp} {p h : Addr} {d : Int} {s : LW Str} {v : V} {ds : List (Deed Str)} (e : Sx2 p h H H') (L : LWAt K H p h d s) (D : DsAt K H v ds) : DsAt K H' v ds := by
  obtain ⟨a, vs, rfl, h1, h2, h3⟩ := D
  refine ⟨a, vs, rfl, ?_, h2, fun i x hx => ?_⟩
  · obtain ⟨dx, n, hp, hh⟩ := L
    rcases h1 with (z | ⟨o, z⟩) | z
    · exact .inl (.inl (e _ _ (ne_of z hp (by intro z; cases z)) (ne_of z hh (by intro z; cases z)) z))
    · exact .inl (.inr ⟨o, e _ _ (ne_of z hp (by intro z; cases z)) (ne_of z hh (by intro z; cases z)) z⟩)
    · exact .inr z
  · obtain ⟨u, hu, hd⟩ := h3 i x hx
    exact ⟨u, hu, hd.sx2 e L⟩
theorem runL_snoc (d : Int) (x : Deed Str) : ∀ (ds : List (Deed Str)) (s : LW Str), runL d s (ds ++ [x]) = ((tellL d (runL d s ds).1 x).1, (runL d s ds).2 ++ [(tellL d (runL d s ds).1 x).2])
  | [], s => rfl
  | y :: ds, s => by
    rw [List.cons_append, runL, runL_snoc d x ds]
    rfl
theorem runL_len (d : Int) : ∀ (ds : List (Deed Str)) (s : LW Str), (runL d s ds).2.length = ds.length
  | [], s => rfl
  | y :: ds, s => by rw [runL, List.length_cons, List.length_cons, runL_len d ds]
theorem LWOkB.run {D d : Int} : ∀ (ds : List (Deed Str)) {s : LW Str}, LWOkB D d s → (∀ x ∈ ds, deedOk x) → LWOkB D d (runL d s ds).1
  | [], _, ok, _ => ok
  | y :: ds, s, ok, h => by
    rw [runL]
    exact LWOkB.run ds (ok.stepD (h y (List.mem_cons_self ..))) fun x hx => h x (List.mem_cons_of_mem _ hx)
section
variable {P : Program} {w : World} {K : PySem.W.Frag} {mg : Str → Option Value} {base : Heap}
abbrev N_LineWork_init : List Str := ["self", "length"]
theorem sc_LineWork_init : FnScope N_LineWork_init ["self", "length"] (defScope s_LineWork_init) := ⟨rfl, rfl, rfl, by decide +kernel, rfl, by decide +kernel, by decide +kernel⟩
def spLWI (K : PySem.W.Frag) : Sp := fun vs H Q _ => ∃ x dx d, vs = [.ref x, .int d] ∧ H x = some (.ins (cLW K) dx []) ∧ ∀ H' h, Sx x H H' → H h = none → LWAt K H' x h d lw0 → Q .non H'
theorem mak_LineWork (T : Tx K mg) : Mak P w K mg base 1 "LineWork" (cLW K) (spLWI K) [] := by
  refine makD T.f_LineWork_init T.mk_LineWork T.g_LineWork sc_LineWork_init (fun vs H Q E h => ?_) (fun _ _ _ _ _ _ us hl => match us, hl with | [_, _], _ => rfl) (fun cdv A outer s H vs Q E hr h => ?_)
  · obtain ⟨x, dx, d, rfl, _⟩ := h
    rfl
  · obtain ⟨x, dx, d, rfl, hx, k⟩ := h
    refine ⟨_, (pss_cons (ps_fld (pv 0) (pv 1) rfl)
      (pss_cons (ps_fld (pv 0) pe_int rfl)
      (pss_cons (ps_fld (pv 0) pe_dnewK rfl)
      (pss_one (ps_fld (pv 0) pe_int rfl))))), ?_⟩
    refine ⟨_, rfl, _, rfl, x, _, dx, _, rfl, hx, T.c_LineWork, T.na_LineWork_half, by show 0 < 1000; decide, ?_⟩
    refine ⟨_, rfl, x, _, dx, _, rfl, upd_same, T.c_LineWork, T.na_LineWork_stand, by show 1 < 1000; decide, ?_⟩
    intro h hh
    have nh : h ≠ x := Ne.symm (ne_of_none upd_same hh)
    have hh0 : H h = none := by
      rw [upd_ne nh, upd_ne nh] at hh
      exact hh
    refine ⟨_, rfl, x, _, dx, [("half", .int d), ("stand", .int 0)], rfl, ?_, T.c_LineWork, T.na_LineWork_hung, by show 2 < 1000; decide, ?_⟩
    · rw [upd_ne (Ne.symm nh), upd_same]
      rfl
    · refine ⟨_, rfl, x, _, dx, _, rfl, upd_same, T.c_LineWork, T.na_LineWork_lengths, by show 3 < 1000; decide, ?_⟩
      refine k _ h (fun b u n e => ?_) hh0 ⟨dx, 0, upd_same, ?_⟩
      · rw [upd_ne n, upd_ne n, upd_ne (ne_of_none e hh0), upd_ne n, upd_ne n]
        exact e
      · rw [upd_ne nh, upd_ne nh, upd_same]
        rfl
abbrev N_told_of : List Str := ["deeds", "distance", "work", "deed"]
theorem sc_told_of : FnScope N_told_of ["deeds", "distance"] (defScope s_told_of) := ⟨rfl, rfl, rfl, by decide +kernel, rfl, by decide +kernel, by decide +kernel⟩
def spTold (K : PySem.W.Frag) : Sp := fun vs H Q _ => ∃ v ds d, vs = [v, .int d] ∧ DsAt K H v ds ∧ (∀ x ∈ ds, deedOk x) ∧ ds.length ≤ 20 ∧ 1 ≤ d ∧ d < 2 ^ 16 ∧ ∀ H' D, Same H H' → H D = none → H' D = some (.lst ((toldL d ds).map valT)) → Q (.ref D) H'
theorem cal_told_of (T : Tx K mg) : Cal P w K mg base 6 "told_of" (spTold K) [] := by
  refine calD T.f_told_of T.g_told_of sc_told_of (fun vs H Q E h => ?_) (fun _ _ _ _ _ _ us hl => match us, hl with | [_, _], _ => rfl) (fun cdv A outer s H vs Q E hr h => ?_)
  · obtain ⟨x, dx, d, rfl, _⟩ := h
    rfl
  · obtain ⟨v, ds, d, rfl, hD, ho, hl, d1, d2, k⟩ := h
    refine ⟨_, (pss_cons (ps_set (i := 2) sc_told_of.nd rfl (Or.inr rfl) (C8.pe_mk (mak_LineWork T) hr (by decide) (by rfl) (pa_cons (pv 1) pa_nil)))
      (pss_one (ps_ret (pe_lc (own := [("deed", 3)]) rfl sc_told_of.nd (pi_tup (pv 0)) (blkOk_by (N := N_told_of) (sc := defScope s_told_of) (own := [("deed", 3)]) (by decide +kernel)) (fun _ _ _ _ _ => (pg_name (i := 3) sc_told_of.nd rfl (Or.inl rfl))) (fun _ _ _ _ _ => pts_nil) (fun _ _ _ _ _ => (C8.pe_mt (met_tell T) hr (by decide) (pv 2) (pa_cons (pv 3) pa_nil))))))), ?_⟩
    refine ⟨_, rfl, fun p dx hp hdx ne => ⟨p, dx, d, rfl, upd_same, fun H1 h s1 hh L1 => ⟨rfl, ?_⟩⟩⟩
    have hh0 : H h = none := by
      by_cases e1 : h = p
      · rw [e1]; exact hp
      · by_cases e2 : h = dx
        · rw [e2]; exact hdx
        · rw [upd_ne e1, upd_ne e2] at hh
          exact hh
    have e1 : Same H H1 := Sx.made s1 hp hdx
    have hD1 := hD.mono e1
    obtain ⟨a, us, rfl, h1, h2, h3⟩ := hD1
    have back : ∀ H2, Sx2 p h H1 H2 → Same H H2 := fun H2 e b u z => e b u (ne_of_none z hp) (ne_of_none z hh0) (e1 b u z)
    refine ⟨_, rfl, a, rfl, ⟨_, h1⟩, fun D hD => lc_it (walk_tup (xs := us)) (fun i H' => Sx2 p h H1 H' ∧ LWAt K H' p h d (runL d lw0 (ds.take i)).1 ∧ H' D = some (.lst ((runL d lw0 (ds.take i)).2.map valT))) ?_ ?_ ?_ ?_⟩
    · exact ⟨Same.sx2 (Same.new hD), L1.mono (Same.new hD), upd_same⟩
    · rintro i H2 _ ⟨e2, L2, _⟩
      have : DsAt K H2 (.ref a) ds := DsAt.sx2 e2 L1 ⟨a, us, rfl, h1, h2, h3⟩
      rcases h1 with (z | ⟨o, z⟩) | z
      · obtain ⟨dx, n, hp, hh⟩ := L1
        exact .inl (.inl (e2 _ _ (ne_of z hp (by intro z; cases z)) (ne_of z hh (by intro z; cases z)) z))
      · obtain ⟨dx, n, hp, hh⟩ := L1
        exact .inl (.inr ⟨o, e2 _ _ (ne_of z hp (by intro z; cases z)) (ne_of z hh (by intro z; cases z)) z⟩)
      · exact .inr z
    · rintro i x H2 H3 hi ⟨e2, L2, hl2⟩ ⟨rfl, hx⟩
      have hi' : i < ds.length := by omega
      obtain ⟨u, hu, du⟩ := h3 i ds[i] (List.getElem?_eq_getElem hi')
      rw [hx] at hu
      cases hu
      obtain ⟨dx2, n2, hp2, hh2⟩ := id L2
      refine ⟨rfl, lcYes (iteT ⟨_, rfl, p, dx2, _, rfl, hp2, rfl, _, rfl, p, h, d, _, x, ds[i], rfl, du.sx2 e2 L1, ho _ (List.getElem_mem hi'), L2, (LWOk.start d1 d2).run _ fun y hy => ho y (List.mem_of_mem_take hy), fun H4 e4 L4 => ?_⟩)⟩
      have nDp : D ≠ p := fun z => by
        obtain ⟨_, _, q, _⟩ := L1
        rw [← z, hD] at q
        cases q
      have nDh : D ≠ h := fun z => by
        obtain ⟨_, _, _, q⟩ := L1
        rw [← z, hD] at q
        cases q
      have e5 : Sx2 p h H1 H4 := e2.trans e4
      refine ⟨_, e4 _ _ nDp nDh hl2, ?_, fun b u n m z => ?_, ?_, ?_⟩
      · rw [List.length_map, runL_len, List.length_take, sizeLine_eq]
        omega
      · rw [upd_ne (ne_of_none z hD)]
        exact e5 b u n m z
      · rw [List.take_succ_eq_append_getElem hi', runL_snoc]
        obtain ⟨dx4, n4, hp4, hh4⟩ := L4
        exact ⟨dx4, n4, by rw [upd_ne (Ne.symm nDp)]; exact hp4, by rw [upd_ne (Ne.symm nDh)]; exact hh4⟩
      · rw [upd_same, List.take_succ_eq_append_getElem hi', runL_snoc, List.map_append]
        rfl
    · rintro H2 ⟨e2, L2, hl2⟩
      rw [h2, List.take_length] at hl2
      exact k H2 D (back H2 e2) (by
        cases q : H D with
        | none => rfl
        | some u => rw [e1 _ _ q] at hD; cases hD) hl2
abbrev N_work_of : List Str := ["deeds", "distance", "work", "deed"]
theorem sc_work_of : FnScope N_work_of ["deeds", "distance"] (defScope s_work_of) := ⟨rfl, rfl, rfl, by decide +kernel, rfl, by decide +kernel, by decide +kernel⟩
def spWork (K : PySem.W.Frag) : Sp := fun vs H Q _ => ∃ v ds d, vs = [v, .int d] ∧ DsAt K H v ds ∧ (∀ x ∈ ds, deedOk x) ∧ ds.length ≤ 20 ∧ 1 ≤ d ∧ d < 2 ^ 16 ∧ ∀ H' p h, Same H H' → LWAt K H' p h d (workL d ds) → Q (.ref p) H'
theorem cal_work_of (T : Tx K mg) : Cal P w K mg base 6 "work_of" (spWork K) [] := by
  refine calD T.f_work_of T.g_work_of sc_work_of (fun vs H Q E h => ?_) (fun _ _ _ _ _ _ us hl => match us, hl with | [_, _], _ => rfl) (fun cdv A outer s H vs Q E hr h => ?_)
  · obtain ⟨x, dx, d, rfl, _⟩ := h
    rfl
  · obtain ⟨v, ds, d, rfl, hD, ho, hl, d1, d2, k⟩ := h
    refine ⟨_, (pss_cons (ps_set (i := 2) sc_work_of.nd rfl (Or.inl rfl) (C8.pe_mk (mak_LineWork T) hr (by decide) (by rfl) (pa_cons (pv 1) pa_nil)))
      (pss_cons (ps_for PassesOwn.never rfl (pi_tup (pv 0)) (pg_name (i := 3) sc_work_of.nd rfl (Or.inl rfl)) (pss_one (ps_expr (C8.pe_mt (met_tell T) hr (by decide) (pv 2) (pa_cons (pv 3) pa_nil)))))
      (pss_one (ps_ret (pv 2))))), ?_⟩
    refine ⟨_, rfl, fun p dx hp hdx ne => ⟨p, dx, d, rfl, upd_same, fun H1 h s1 hh L1 => ⟨rfl, ?_⟩⟩⟩
    have hh0 : H h = none := by
      by_cases e1 : h = p
      · rw [e1]; exact hp
      · by_cases e2 : h = dx
        · rw [e2]; exact hdx
        · rw [upd_ne e1, upd_ne e2] at hh
          exact hh
    have e1 : Same H H1 := Sx.made s1 hp hdx
    have hD1 := hD.mono e1
    obtain ⟨a, us, rfl, h1, h2, h3⟩ := hD1
    have back : ∀ H2, Sx2 p h H1 H2 → Same H H2 := fun H2 e b u z => e b u (ne_of_none z hp) (ne_of_none z hh0) (e1 b u z)
    refine ⟨_, rfl, a, rfl, ⟨_, h1⟩, for_it (walk_tup (xs := us)) (fun i σ' H' => Sx2 p h H1 H' ∧ LWAt K H' p h d (runL d lw0 (ds.take i)).1 ∧ ∃ x, σ' = [some (.ref a), some (.int d), some (.ref p), x]) ?_ ?_ ?_ ?_⟩
    · exact ⟨Sx2.refl, L1, _, rfl⟩
    · rintro i σ' H2 _ ⟨e2, L2, _⟩
      rcases h1 with (z | ⟨o, z⟩) | z
      · obtain ⟨dx, n, hp, hh⟩ := L1
        exact .inl (.inl (e2 _ _ (ne_of z hp (by intro z; cases z)) (ne_of z hh (by intro z; cases z)) z))
      · obtain ⟨dx, n, hp, hh⟩ := L1
        exact .inl (.inr ⟨o, e2 _ _ (ne_of z hp (by intro z; cases z)) (ne_of z hh (by intro z; cases z)) z⟩)
      · exact .inr z
    · rintro i x σ' H2 H3 hi ⟨e2, L2, y, rfl⟩ ⟨rfl, hx⟩
      have hi' : i < ds.length := by omega
      obtain ⟨u, hu, du⟩ := h3 i ds[i] (List.getElem?_eq_getElem hi')
      rw [hx] at hu
      cases hu
      obtain ⟨dx2, n2, hp2, hh2⟩ := id L2
      refine ⟨_, rfl, p, dx2, _, rfl, hp2, rfl, _, rfl, p, h, d, _, x, ds[i], rfl, du.sx2 e2 L1, ho _ (List.getElem_mem hi'), L2, (LWOk.start d1 d2).run _ fun y hy => ho y (List.mem_of_mem_take hy), fun H4 e4 L4 => ?_⟩
      refine ⟨e2.trans e4, ?_, _, rfl⟩
      rw [List.take_succ_eq_append_getElem hi', runL_snoc]
      exact L4
    · rintro σ' H2 ⟨e2, L2, y, rfl⟩
      rw [h2, List.take_length] at L2
      exact ⟨_, rfl, k H2 p h (back H2 e2) L2⟩
end
end Rln
end
section
set_option Elab.async false
set_option linter.all false
set_option maxRecDepth 100000
set_option maxHeartbeats 4000000
namespace Rln
open PySem PySem.Spec PyProof.Rows L2
def pairV (q : Int × Int) : List V := [.int q.1, .int q.2]
inductive HungS (H : Hp) : List (Key × V) → List (Str × (Int × Int)) → Prop where
  | nil : HungS H [] []
  | cons {k : Str} {b : Addr} {q : Int × Int} {kvs l} (e : H b = some (.tup (pairV q))) (r : HungS H kvs l) : HungS H ((Sum.inr k, .ref b) :: kvs) ((k, q) :: l)
theorem HungS.keep {H H' : Hp} {kvs l} (R : HungS H kvs l) (e : ∀ b q, H b = some (.tup (pairV q)) → H' b = some (.tup (pairV q))) : HungS H' kvs l := by
  induction R with
  | nil => exact .nil
  | cons h r ih => exact .cons (e _ _ h) ih
theorem HungS.len {H : Hp} {kvs l} (R : HungS H kvs l) : kvs.length = l.length := by
  induction R with
  | nil => rfl
  | cons h r ih => rw [List.length_cons, List.length_cons, ih]
theorem HungS.get {H : Hp} {kvs l} (R : HungS H kvs l) : ∀ {i : Nat} {q : Str × (Int × Int)}, l[i]? = some q → ∃ b, kvs[i]? = some (Sum.inr q.1, .ref b) ∧ H b = some (.tup (pairV q.2)) := by
  induction R with
  | nil => intro i q h; cases i <;> cases h
  | cons h r ih =>
    intro i q e
    cases i with
    | zero => cases e; exact ⟨_, rfl, h⟩
    | succ i => exact ih e
theorem HungS.snoc {H : Hp} {kvs l} (R : HungS H kvs l) {t : Str} {b : Addr} {q : Int × Int} (e : H b = some (.tup (pairV q))) : HungS H (kvs ++ [(Sum.inr t, .ref b)]) (l ++ [(t, q)]) := by
  induction R with
  | nil => exact .cons e .nil
  | cons h r ih => exact .cons h ih
theorem HungS.val {H : Hp} {kvs l} (R : HungS H kvs l) (t : Str) : (getK l t = none ∧ valV kvs (Sum.inr t) = none) ∨ ∃ q b, getK l t = some q ∧ valV kvs (Sum.inr t) = some (.ref b) ∧ H b = some (.tup (pairV q)) := by
  induction R with
  | nil => exact .inl ⟨rfl, rfl⟩
  | @cons k b q kvs l h r ih =>
    unfold getK valV at *
    rw [List.find?_cons, List.find?_cons]
    by_cases e : k = t
    · subst e
      simp only [decide_true]
      exact .inr ⟨_, _, rfl, rfl, h⟩
    · simp only [Sum.inr.injEq, e, decide_false]
      exact ih
theorem HungS.del {H : Hp} {kvs l} (R : HungS H kvs l) (t : Str) : HungS H (dropK kvs (Sum.inr t)) (delK l t) := by
  induction R with
  | nil => exact .nil
  | @cons k b q kvs l h r ih =>
    unfold dropK delK at *
    rw [List.filter_cons, List.filter_cons]
    by_cases e : k = t
    · subst e
      simp only [ne_eq, decide_not, decide_true, Bool.not_true, Bool.false_eq_true, if_false]
      simpa using ih
    · simp only [ne_eq, Sum.inr.injEq, e, not_false_eq_true, decide_true, decide_false, Bool.not_false, if_true]
      exact .cons h (by simpa using ih)
/-- the story's instance alone -/
def SWI (K : PySem.W.Frag) (H : Hp) (p h : Addr) (r : Int) (s : SW Str) : Prop :=
  ∃ dx a, H p = some (.ins (cStory K) dx [("remainder", .int r), ("stand", .ref a), ("hung", .ref h)]) ∧ H a = some (.tup (pairV s.stand))
def SWAt (K : PySem.W.Frag) (H : Hp) (p h : Addr) (r : Int) (s : SW Str) : Prop :=
  SWI K H p h r s ∧ ∃ kvs, H h = some (.dK kvs) ∧ HungS H kvs s.hung
theorem SWI.mono {K : PySem.W.Frag} {H H' : Hp} {p h : Addr} {r : Int} {s : SW Str} (e : Same H H') (L : SWI K H p h r s) : SWI K H' p h r s := by
  obtain ⟨dx, a, h1, h2⟩ := L
  exact ⟨dx, a, e _ _ h1, e _ _ h2⟩
theorem SWAt.mono {K : PySem.W.Frag} {H H' : Hp} {p h : Addr} {r : Int} {s : SW Str} (e : Same H H') (L : SWAt K H p h r s) : SWAt K H' p h r s := by
  obtain ⟨h1, kvs, h2, h3⟩ := L
  exact ⟨h1.mono e, kvs, e _ _ h2, h3.keep fun _ _ => e _ _⟩
theorem SWAt.ne {K : PySem.W.Frag} {H : Hp} {p h : Addr} {r : Int} {s : SW Str} (L : SWAt K H p h r s) : h ≠ p := by
  obtain ⟨⟨dx, a, h1, _⟩, kvs, h2, _⟩ := L
  exact ne_of h2 h1 (by intro z; cases z)
theorem pair_data (a b : Int × Int) : PyData.eqv (.tuple ((pairV a).map vD)) (.tuple ((pairV b).map vD)) = decide (a = b) := by
  obtain ⟨a1, a2⟩ := a
  obtain ⟨b1, b2⟩ := b
  simp [pairV, vD, PyData.eqv, PyData.eqvAll]
  rw [Bool.eq_iff_iff]
  simp
section
variable {P : Program} {w : World} {K : PySem.W.Frag} {mg : Str → Option Value} {base : Heap}
abbrev N_moved : List Str := ["spot", "half", "number"]
theorem sc_moved : FnScope N_moved ["spot", "half", "number"] (defScope s_moved) := ⟨rfl, rfl, rfl, by decide +kernel, rfl, by decide +kernel, by decide +kernel⟩
def spMoved (K : PySem.W.Frag) : Sp := fun vs H Q _ => ∃ a q h n, vs = [.ref a, .int h, .int n] ∧ SqT K H a (pairV q) ∧ ∀ H' p, Same H H' → H p = none → H' p = some (.tup (pairV (moved q h n))) → Q (.ref p) H'
theorem cal_moved (T : Tx K mg) : Cal P w K mg base 1 "moved" (spMoved K) [] := by
  refine calD T.f_moved T.g_moved sc_moved (fun vs H Q E h => ?_) (fun _ _ _ _ _ _ us hl => match us, hl with | [_, _, _], _ => rfl) (fun cdv A outer s H vs Q E hr h => ?_)
  · obtain ⟨a, q, h, n, rfl, _⟩ := h
    rfl
  · obtain ⟨a, q, h, n, rfl, ha, k⟩ := h
    refine ⟨_, (pss_one (ps_ret (pe_tup (pa_cons (pe_op op_mod (pe_op op_add (pe_ix ix_tup (pv 0) pe_int (fun _ _ => rfl)) (pv 1)) pe_int) (pa_cons (pe_op op_add (pe_ix ix_tup (pv 0) pe_int (fun _ _ => rfl)) (pv 2)) pa_nil))))), ?_⟩
    refine ⟨_, rfl, a, _, _, _, rfl, rfl, ha, rfl, _, rfl, _, _, rfl, rfl, _, _, rfl, rfl, by show (0 : Int) < 2; decide, ?_⟩
    refine ⟨_, rfl, a, _, _, _, rfl, rfl, ha, rfl, _, rfl, _, _, rfl, rfl, by show 2 ≤ sizeLine; decide, fun p hp => ?_⟩
    exact k _ p (Same.new hp) hp upd_same
abbrev N_Story_spot_at : List Str := ["self", "window"]
theorem sc_Story_spot_at : FnScope N_Story_spot_at ["self", "window"] (defScope s_Story_spot_at) := ⟨rfl, rfl, rfl, by decide +kernel, rfl, by decide +kernel, by decide +kernel⟩
def spSpotS (K : PySem.W.Frag) : Sp := fun vs H Q _ => ∃ p h r s far, vs = [.ref p, .str (wS far)] ∧ SWI K H p h r s ∧ ∀ H' b, Same H H' → H b = none → H' b = some (.tup (pairV (spotS s far))) → Q (.ref b) H'
theorem far_int (far : Bool) : decide (V.str (wS far) = V.str "far") = far := by cases far <;> decide +kernel
theorem met_spotS (T : Tx K mg) : Met P w K mg base 2 (cStory K) "spot_at" (spSpotS K) [] := by
  refine metD T.f_Story_spot_at T.c_Story T.m_Story_spot_at sc_Story_spot_at (fun vs H Q E h => ?_) (fun _ _ _ _ _ _ us hl => match us, hl with | [_, _], _ => rfl) (fun cdv A outer s H vs Q E hr h => ?_)
  · obtain ⟨p, h, d, s, far, rfl, _⟩ := h
    rfl
  · obtain ⟨p, h, r, s, far, rfl, ⟨dx, a, hp, ha⟩, k⟩ := h
    refine ⟨_, (pss_one (ps_ret (C8.pe_c (cal_moved T) hr (by decide) (by rfl) (pa_cons (pe_fld (pv 0) rfl) (pa_cons (pe_callTy call_int1 (by rfl) T.n_int boot_int (pa_cons (pe_cmpR op_eq (pv 1) pe_str (nomark _)) pa_nil)) (pa_cons pe_int pa_nil)))))), ?_⟩
    refine ⟨_, rfl, p, _, dx, _, _, rfl, hp, T.c_Story, T.na_Story_stand, rfl, _, rfl, rfl, .inr ⟨_, rfl, ?_⟩⟩
    rw [far_int]
    exact ⟨a, s.stand, _, 0, rfl, SqT.of ha, k⟩
abbrev N_Story_bring : List Str := ["self", "window", "place"]
theorem sc_Story_bring : FnScope N_Story_bring ["self", "window", "place"] (defScope s_Story_bring) := ⟨rfl, rfl, rfl, by decide +kernel, rfl, by decide +kernel, by decide +kernel⟩
def spBring (K : PySem.W.Frag) : Sp := fun vs H Q _ => ∃ p h r s far b q, vs = [.ref p, .str (wS far), .ref b] ∧ SWAt K H p h r s ∧ H b = some (.tup (pairV q)) ∧ ∀ H', Sx2 p h H H' → SWAt K H' p h r (bringS s far q) → Q .non H'
theorem SWAt.setStand {K : PySem.W.Frag} {H H' : Hp} {p h dx a : Addr} {r : Int} {s : SW Str} {q : Int × Int} (L : SWAt K H p h r s) (e : Same H H') (hb : H' a = some (.tup (pairV q))) :
    SWAt K (upd H' p (.ins (cStory K) dx [("remainder", .int r), ("stand", .ref a), ("hung", .ref h)])) p h r { s with stand := q } := by
  have ne := L.ne
  obtain ⟨⟨dx0, a0, h1, h2⟩, kvs, h3, h4⟩ := L.mono e
  have t : ∀ b q, H' b = some (.tup (pairV q)) → b ≠ p := fun b q z => ne_of z h1 (by intro z; cases z)
  refine ⟨⟨dx, a, upd_same, ?_⟩, kvs, ?_, h4.keep fun b q z => ?_⟩
  · rw [upd_ne (t _ _ hb)]; exact hb
  · rw [upd_ne ne]; exact h3
  · rw [upd_ne (t _ _ z)]; exact z
theorem met_bring (T : Tx K mg) : Met P w K mg base 2 (cStory K) "bring" (spBring K) [] := by
  refine metD T.f_Story_bring T.c_Story T.m_Story_bring sc_Story_bring (fun vs H Q E h => ?_) (fun _ _ _ _ _ _ us hl => match us, hl with | [_, _, _], _ => rfl) (fun cdv A outer s H vs Q E hr h => ?_)
  · obtain ⟨p, h, r, s, far, b, q, rfl, _⟩ := h
    rfl
  · obtain ⟨p, h, r, s, far, b, q, rfl, L, hb, k⟩ := h
    refine ⟨_, (pss_one (ps_fld (pv 0) (C8.pe_c (cal_moved T) hr (by decide) (by rfl) (pa_cons (pv 2) (pa_cons (pe_callTy call_int1 (by rfl) T.n_int boot_int (pa_cons (pe_cmpR op_eq (pv 1) pe_str (nomark _)) pa_nil)) (pa_cons pe_int pa_nil)))) rfl)), ?_⟩
    refine ⟨_, rfl, _, rfl, rfl, .inr ⟨_, rfl, ?_⟩⟩
    rw [far_int]
    refine ⟨b, q, _, 0, rfl, SqT.of hb, fun H1 c e1 hc hc1 => ?_⟩
    obtain ⟨⟨dx, a, hp, ha⟩, _⟩ := L.mono e1
    refine ⟨_, rfl, p, _, dx, _, rfl, hp, T.c_Story, T.na_Story_stand, by show 3 < 1000; decide, ?_⟩
    exact k _ ((Same.sx2 e1).putP) (L.setStand e1 hc1)
abbrev N_Story_gap : List Str := ["self", "window", "place", "spot"]
theorem sc_Story_gap : FnScope N_Story_gap ["self", "window", "place"] (defScope s_Story_gap) := ⟨rfl, rfl, rfl, by decide +kernel, rfl, by decide +kernel, by decide +kernel⟩
def spGap (K : PySem.W.Frag) : Sp := fun vs H Q _ => ∃ p h r s far b q, vs = [.ref p, .str (wS far), .ref b] ∧ SWI K H p h r s ∧ H b = some (.tup (pairV q)) ∧ ∀ H' c, Same H H' → H c = none → H' c = some (.tup (pairV (gapS s far q))) → Q (.ref c) H'
theorem met_gap (T : Tx K mg) : Met P w K mg base 3 (cStory K) "gap" (spGap K) [] := by
  refine metD T.f_Story_gap T.c_Story T.m_Story_gap sc_Story_gap (fun vs H Q E h => ?_) (fun _ _ _ _ _ _ us hl => match us, hl with | [_, _, _], _ => rfl) (fun cdv A outer s H vs Q E hr h => ?_)
  · obtain ⟨p, h, r, s, far, b, q, rfl, _⟩ := h
    rfl
  · obtain ⟨p, h, r, s, far, b, q, rfl, L, hb, k⟩ := h
    refine ⟨_, (pss_cons (ps_set (i := 3) sc_Story_gap.nd rfl (Or.inl rfl) (C8.pe_mt (met_spotS T) hr (by decide) (pv 0) (pa_cons (pv 1) pa_nil)))
      (pss_one (ps_ret (pe_tup (pa_cons (pe_op op_mod (pe_op op_sub (pe_ix ix_tup (pv 2) pe_int (fun _ _ => rfl)) (pe_ix ix_tup (pv 3) pe_int (fun _ _ => rfl))) pe_int) (pa_cons (pe_op op_sub (pe_ix ix_tup (pv 2) pe_int (fun _ _ => rfl)) (pe_ix ix_tup (pv 3) pe_int (fun _ _ => rfl))) pa_nil)))))), ?_⟩
    obtain ⟨dx, a, hp, ha⟩ := id L
    refine ⟨_, rfl, p, dx, _, rfl, hp, rfl, _, rfl, p, h, r, s, far, rfl, L, fun H1 c e1 hc hc1 => ?_⟩
    have hb1 := e1 _ _ hb
    refine ⟨_, rfl, b, _, _, _, rfl, rfl, SqT.of hb1, rfl, _, rfl, c, _, _, _, rfl, rfl, SqT.of hc1, rfl, _, _, rfl, rfl, _, _, rfl, rfl, by show (0 : Int) < 2; decide, ?_⟩
    refine ⟨_, rfl, b, _, _, _, rfl, rfl, SqT.of hb1, rfl, _, rfl, c, _, _, _, rfl, rfl, SqT.of hc1, rfl, _, _, rfl, rfl, by show 2 ≤ sizeLine; decide, fun g hg => ?_⟩
    refine k _ g (Same.add e1 hg) ?_ upd_same
    cases z : H g with
    | none => rfl
    | some u => rw [e1 _ _ z] at hg; cases hg
abbrev N_Story_thing_at : List Str := ["self", "window", "spot", "thing", "place"]
theorem sc_Story_thing_at : FnScope N_Story_thing_at ["self", "window"] (defScope s_Story_thing_at) := ⟨rfl, rfl, rfl, by decide +kernel, rfl, by decide +kernel, by decide +kernel⟩
def spThingS (K : PySem.W.Frag) : Sp := fun vs H Q _ => ∃ p h r s far, vs = [.ref p, .str (wS far)] ∧ SWAt K H p h r s ∧ ∀ H', Same H H' → Q (whatV (thingS s far)) H'
theorem met_thingS (T : Tx K mg) : Met P w K mg base 3 (cStory K) "thing_at" (spThingS K) [] := by
  refine metD T.f_Story_thing_at T.c_Story T.m_Story_thing_at sc_Story_thing_at (fun vs H Q E h => ?_) (fun _ _ _ _ _ _ us hl => match us, hl with | [_, _], _ => rfl) (fun cdv A outer s H vs Q E hr h => ?_)
  · obtain ⟨p, h, d, s, far, rfl, _⟩ := h
    rfl
  · obtain ⟨p, h, r, s, far, rfl, L, k⟩ := h
    refine ⟨_, (pss_cons (ps_set (i := 2) sc_Story_thing_at.nd rfl (Or.inl rfl) (C8.pe_mt (met_spotS T) hr (by decide) (pv 0) (pa_cons (pv 1) pa_nil)))
      (pss_cons (ps_lock (ps_for PassesOwn.never rfl (pi_items (pe_fld (pv 0) rfl)) (pg_tup rfl (pgs_cons (pg_name (i := 3) sc_Story_thing_at.nd rfl (Or.inl rfl)) (pgs_cons (pg_name (i := 4) sc_Story_thing_at.nd rfl (Or.inl rfl)) pgs_nil))) (pss_one (ps_if (pt_cmpR (op_eqD hr.units) (pv 4) (pv 2) (nomark _)) (pss_one (ps_ret (pv 3))) pss_nil))))
      (pss_one (ps_ret pe_non)))), ?_⟩
    obtain ⟨⟨dx, a, hp, ha⟩, _⟩ := id L
    refine ⟨_, rfl, p, dx, _, rfl, hp, rfl, _, rfl, p, h, r, s, far, rfl, L.1, fun H0 c e0 hc hc1 => ?_⟩
    have L0 := L.mono e0
    have ne : p ≠ h := Ne.symm L0.ne
    obtain ⟨⟨dx, a, hp, ha⟩, kvs, hh, hk⟩ := id L0
    have nch : c ≠ h := ne_of hc1 hh (by intro z; cases z)
    refine ⟨h, _, hh, trivial, fun od => ?_⟩
    have hp1 : upd H0 h (.frz od (.dK kvs)) p = some (.ins (cStory K) dx [("remainder", .int r), ("stand", .ref a), ("hung", .ref h)]) := by
      rw [upd_ne ne]
      exact hp
    have hk1 : HungS (upd H0 h (.frz od (.dK kvs))) kvs s.hung := hk.keep fun b q z => by
      rw [upd_ne (ne_of z hh (by intro z; cases z))]
      exact z
    have hc2 : upd H0 h (.frz od (.dK kvs)) c = some (.tup (pairV (spotS s far))) := by
      rw [upd_ne nch]
      exact hc1
    have fin : ∀ H1, Same (upd H0 h (.frz od (.dK kvs))) H1 → Same H (upd H1 h (.dK kvs)) := fun H1 e1 b u z => by
      have z0 := e0 b u z
      by_cases hb : b = h
      · subst hb
        rw [upd_same]
        rw [hh] at z0
        exact z0
      · rw [upd_ne hb]
        exact e1 b u (by rw [upd_ne hb]; exact z0)
    refine ⟨_, rfl, p, _, dx, _, _, rfl, hp1, T.c_Story, T.na_Story_hung, rfl, h, od, _, rfl, upd_same, ?_⟩
    refine for_it walk_items (fun i σ' H' => Same (upd H0 h (.frz od (.dK kvs))) H' ∧ (∃ x y, σ' = [some (.ref p), some (.str (wS far)), some (.ref c), x, y]) ∧ ∀ j < i, ∀ q, s.hung[j]? = some q → q.2 ≠ spotS s far) ⟨fun _ _ e => e, ⟨_, _, rfl⟩, fun j hj => absurd hj (by omega)⟩ (fun i σ' H' _ hh => hh.1 _ _ upd_same) ?_ ?_
    · rintro i x σ' H1 H2 hi ⟨e1, ⟨x', y', rfl⟩, hn⟩ ⟨t, k1, v1, rfl, ht, rfl, hk2, hv2⟩
      have hi' : i < s.hung.length := by rw [← hk.len]; exact hi
      have eq0 : s.hung[i]? = some s.hung[i] := List.getElem?_eq_getElem hi'
      obtain ⟨b, eq1, hb⟩ := hk1.get eq0
      dsimp only at hk2 hv2
      rw [eq1] at hk2 hv2
      cases hk2
      cases hv2
      have e2 : Same (upd H0 h (.frz od (.dK kvs))) (upd H1 t (.tup [.str s.hung[i].1, .ref b])) := e1.add ht
      refine ⟨t, _, rfl, SqT.of upd_same, rfl, _, _, rfl, _, _, rfl, rfl, ?_⟩
      have db := dp_tup (K := K) (SqT.of (e2 _ _ hb)) rfl
      have dc := dp_tup (K := K) (SqT.of (e2 _ _ hc2)) rfl
      refine ⟨_, rfl, _, rfl, _, _, db.1, dc.1, db.2, dc.2, _, rfl, ?_⟩
      rw [pair_data]
      by_cases e : s.hung[i].2 = spotS s far
      · refine iteTd (decide_eq_true e) ⟨_, rfl, e2 _ _ upd_same, ?_⟩
        have r : thingS s far = some s.hung[i].1 := by
          unfold thingS whoAt
          have : s.hung.find? (fun p => decide (p.2 = spotS s far)) = some s.hung[i] := by
            rw [List.find?_eq_some_iff_getElem]
            refine ⟨decide_eq_true e, i, hi', rfl, fun j hj => ?_⟩
            have := hn j hj _ (List.getElem?_eq_getElem (by omega))
            simp [this]
          rw [this]
          rfl
        rw [r] at k
        exact k _ (fin _ e2)
      · refine iteFd (decide_eq_false e) ⟨e2, ⟨_, _, rfl⟩, fun j hj q hq => ?_⟩
        rcases Nat.lt_succ_iff_lt_or_eq.mp hj with hj | rfl
        · exact hn j hj q hq
        · rw [eq0] at hq
          cases hq
          exact e
    · rintro σ' H1 ⟨e1, ⟨x', y', rfl⟩, hn⟩
      refine ⟨e1 _ _ upd_same, ?_⟩
      have r : thingS s far = none := by
        unfold thingS whoAt
        rw [List.find?_eq_none.mpr fun q hq => ?_]
        · rfl
        · obtain ⟨j, hj, rfl⟩ := List.getElem_of_mem hq
          have := hn j (by rw [hk.len]; exact hj) _ (List.getElem?_eq_getElem hj)
          simp [this]
      rw [r] at k
      exact k _ (fin _ e1)
end
end Rln
end
section
set_option Elab.async false
set_option linter.all false
set_option maxRecDepth 100000
set_option maxHeartbeats 4000000
namespace Rln
open PySem PySem.Spec PyProof.Rows L2
/-! ### the least way -/
def wD (x : (Int × Int) × (Int × Int)) : PyData := .tuple [.tuple [.int x.1.1, .int x.1.2], .tuple [.int x.2.1, .int x.2.2]]
theorem blt_inl (i j : Int) : (itemOrd).blt (Sum.inl i) (Sum.inl j) = decide (i < j) := rfl
theorem wD_lt (x y : (Int × Int) × (Int × Int)) : PySem.W.dataLt (wD x) (wD y) = ltW x y := by
  obtain ⟨⟨a, b⟩, c, d⟩ := x
  obtain ⟨⟨a', b'⟩, c', d'⟩ := y
  have key : ∀ (i j : Int) (l m : List (Int ⊕ List Nat)), PyProof.Rows.lexLt itemOrd (Sum.inl i :: l) (Sum.inl j :: m) = if i = j then PyProof.Rows.lexLt itemOrd l m else decide (i < j) := fun i j l m => by
    by_cases e : i = j
    · subst e
      rw [if_pos rfl]
      exact lex_self (O := itemOrd) _ _ _
    · rw [if_neg e]
      exact lex_diff (O := itemOrd) (x := Sum.inl i) (y := Sum.inl j) (fun q => e (Sum.inl.inj q))
  have nil : PyProof.Rows.lexLt itemOrd ([] : List (Int ⊕ List Nat)) [] = false := rfl
  unfold PySem.W.dataLt wD
  simp only [PySem.W.keyToks, PySem.W.keyToksAll, List.cons_append, List.nil_append, key, if_true, nil]
  unfold ltW ltP
  simp only [Prod.mk.injEq]
  by_cases e1 : a = a' <;> by_cases e2 : b = b' <;> by_cases e3 : c = c' <;> by_cases e4 : d = d' <;> simp [e1, e2, e3, e4]
theorem minD_w (x : (Int × Int) × (Int × Int)) : ∀ r : List ((Int × Int) × (Int × Int)), PySem.W.minD (wD x) (r.map wD) = wD (r.foldl (fun a y => if ltW y a then y else a) x) := by
  intro r
  unfold PySem.W.minD
  induction r generalizing x with
  | nil => rfl
  | cons y r ih =>
    rw [List.map_cons, List.foldl_cons, List.foldl_cons, ← ih]
    rw [wD_lt]
    cases ltW y x <;> rfl
theorem wD_inj {x y : (Int × Int) × (Int × Int)} (h : wD x = wD y) : x = y := by
  obtain ⟨⟨a, b⟩, c, d⟩ := x
  obtain ⟨⟨a', b'⟩, c', d'⟩ := y
  simp only [wD, PyData.tuple.injEq, List.cons.injEq, PyData.int.injEq, and_true] at h
  obtain ⟨⟨h1, h2⟩, h3, h4⟩ := h
  rw [h1, h2, h3, h4]
theorem ws_alike (l : List ((Int × Int) × (Int × Int))) : PySem.W.AlikeAll (l.map wD) := by
  refine ⟨fun x hx y hy => ?_, fun x hx => ?_⟩
  · obtain ⟨i, _, rfl⟩ := List.mem_map.mp hx
    obtain ⟨j, _, rfl⟩ := List.mem_map.mp hy
    simp [wD, PySem.W.alike, PySem.W.alikeAll]
  · obtain ⟨i, _, rfl⟩ := List.mem_map.mp hx
    intro e
    cases e
theorem ws_depth : ∀ l : List ((Int × Int) × (Int × Int)), PyData.depthAll (l.map wD) ≤ 2
  | [] => by simp [PyData.depthAll]
  | x :: l => by
    have := ws_depth l
    simp only [List.map_cons, PyData.depthAll, wD, PyData.depth]
    omega
theorem ws_lay (l : List ((Int × Int) × (Int × Int))) : ∀ z ∈ l.map wD, z.canLay0 = true := fun z hz => by
  obtain ⟨i, _, rfl⟩ := List.mem_map.mp hz
  simp [wD, PyData.canLay0, PyData.canLayAll0]
/-- found ways: pairs of a way and a place -/
inductive WaysS (H : Hp) : List V → List ((Int × Int) × (Int × Int)) → Prop where
  | nil : WaysS H [] []
  | cons {t b c : Addr} {x : (Int × Int) × (Int × Int)} {vs l} (e : H t = some (.tup [.ref b, .ref c])) (e1 : H b = some (.tup (pairV x.1))) (e2 : H c = some (.tup (pairV x.2))) (r : WaysS H vs l) : WaysS H (.ref t :: vs) (x :: l)
theorem WaysS.keep {H H' : Hp} {vs l} (R : WaysS H vs l) (e : ∀ b xs, H b = some (.tup xs) → H' b = some (.tup xs)) : WaysS H' vs l := by
  induction R with
  | nil => exact .nil
  | cons h h1 h2 r ih => exact .cons (e _ _ h) (e _ _ h1) (e _ _ h2) ih
theorem WaysS.snoc {H : Hp} {vs l} (R : WaysS H vs l) {t b c : Addr} {x : (Int × Int) × (Int × Int)} (e : H t = some (.tup [.ref b, .ref c])) (e1 : H b = some (.tup (pairV x.1))) (e2 : H c = some (.tup (pairV x.2))) : WaysS H (vs ++ [.ref t]) (l ++ [x]) := by
  induction R with
  | nil => exact .cons e e1 e2 .nil
  | cons h h1 h2 r ih => exact .cons h h1 h2 ih
theorem WaysS.len {H : Hp} {vs l} (R : WaysS H vs l) : vs.length = l.length := by
  induction R with
  | nil => rfl
  | cons h h1 h2 r ih => rw [List.length_cons, List.length_cons, ih]
theorem WaysS.get {H : Hp} {vs l} (R : WaysS H vs l) : ∀ {i : Nat} {x}, l[i]? = some x → ∃ t b c, vs[i]? = some (.ref t) ∧ H t = some (.tup [.ref b, .ref c]) ∧ H b = some (.tup (pairV x.1)) ∧ H c = some (.tup (pairV x.2)) := by
  induction R with
  | nil => intro i q h; cases i <;> cases h
  | cons h h1 h2 r ih =>
    intro i q e
    cases i with
    | zero => cases e; exact ⟨_, _, _, rfl, h, h1, h2⟩
    | succ i => exact ih e
theorem pair_dp {K : PySem.W.Frag} {H : Hp} {b : Addr} {q : Int × Int} (h : H b = some (.tup (pairV q))) : Dp K H (.ref b) (.tuple [.int q.1, .int q.2]) := .tup (SqT.of h) (.cons (.int _) (.cons (.int _) .nil))
theorem WaysS.dp {K : PySem.W.Frag} {H : Hp} {vs l} (R : WaysS H vs l) : DpAll K H vs (l.map wD) := by
  induction R with
  | nil => exact .nil
  | cons h h1 h2 r ih => exact .cons (.tup (SqT.of h) (.cons (pair_dp h1) (.cons (pair_dp h2) .nil))) ih
/-- what a story keeps: numbers within B -/
structure SWOk (B : Int) (s : SW Str) : Prop where
  b0 : 0 ≤ B
  s0 : s.stand.1 = 0 ∨ s.stand.1 = 1
  s1 : -B ≤ s.stand.2 ∧ s.stand.2 ≤ B
  nd : (s.hung.map (·.1)).Nodup
  gd : ∀ q ∈ s.hung, goodT q.1 ∧ (q.2.1 = 0 ∨ q.2.1 = 1) ∧ -B ≤ q.2.2 ∧ q.2.2 ≤ B
theorem SWOk.len {B : Int} {s : SW Str} (ok : SWOk B s) : s.hung.length ≤ 4 := by
  have := sub_len (m := (["a", "sock", "zzzzzzzz", "shirt"] : List Str)) ok.nd fun x hx => by
    obtain ⟨q, hq, rfl⟩ := List.mem_map.mp hx
    rcases (ok.gd q hq).1 with e | e | e | e <;> rw [e] <;> decide +kernel
  rw [List.length_map] at this
  exact this
/-- a told value of the story, as a value -/
def TAt (K : PySem.W.Frag) (H : Hp) (v : V) : TV Str → Prop
  | .form => FormAt K H v
  | .int _ => False
  | t => v = valT t
theorem TAt.mono {K : PySem.W.Frag} {H H' : Hp} {v : V} {t : TV Str} (e : Same H H') (h : TAt K H v t) : TAt K H' v t := by
  cases t with
  | form => exact FormAt.mono e h
  | _ => exact h
theorem putK_new {kvs : List (Key × V)} {k : Key} (h : valV kvs k = none) (v : V) : putK kvs k v = kvs ++ [(k, v)] := by
  unfold putK
  rw [if_neg (by rw [valV_key h]; exact Bool.false_ne_true)]
section
variable {P : Program} {w : World} {K : PySem.W.Frag} {mg : Str → Option Value} {base : Heap}
abbrev N_Story_way : List Str := ["self", "half", "number", "size", "halves"]
theorem sc_Story_way : FnScope N_Story_way ["self", "half", "number", "size"] (defScope s_Story_way) := ⟨rfl, rfl, rfl, by decide +kernel, rfl, by decide +kernel, by decide +kernel⟩
def spWay (K : PySem.W.Frag) : Sp := fun vs H Q _ => ∃ p h r s half number size, vs = [.ref p, .int half, .int number, .int size] ∧ SWI K H p h r s ∧ (half = 0 ∨ half = 1) ∧ 1 ≤ size ∧ size ≤ 6 ∧
  match wayS r half number size.toNat with
  | none => Q .non H
  | some q => ∀ H' b, Same H H' → H b = none → H' b = some (.tup (pairV q)) → Q (.ref b) H'
theorem way_range {half size : Int} (h : half = 0 ∨ half = 1) (h1 : 1 ≤ size) (h2 : size ≤ 6) : RgC half (2 * size + 2) 2 (size.toNat + 1) := by
  have : size = 1 ∨ size = 2 ∨ size = 3 ∨ size = 4 ∨ size = 5 ∨ size = 6 := by omega
  unfold RgC
  rcases h with rfl | rfl <;> rcases this with rfl | rfl | rfl | rfl | rfl | rfl <;> decide +kernel
theorem met_way (T : Tx K mg) : Met P w K mg base 1 (cStory K) "way" (spWay K) [] := by
  refine metD T.f_Story_way T.c_Story T.m_Story_way sc_Story_way (fun vs H Q E h => ?_) (fun _ _ _ _ _ _ us hl => match us, hl with | [_, _, _, _], _ => rfl) (fun cdv A outer s H vs Q E hr h => ?_)
  · obtain ⟨p, h, d, s, far, nu, si, rfl, _⟩ := h
    rfl
  · obtain ⟨p, h, r, s, half, number, size, rfl, L, hh, z1, z2, k⟩ := h
    obtain ⟨dx, a, hp, ha⟩ := id L
    refine ⟨_, (pss_cons (ps_for PassesOwn.never rfl (pi_range3 (by rfl) T.n_range (pa_cons (pv 1) (pa_cons (pe_op op_add (pe_op op_mul pe_int (pv 3)) pe_int) (pa_cons pe_int pa_nil)))) (pg_name (i := 4) sc_Story_way.nd rfl (Or.inl rfl)) (pss_one (ps_if (PW.pt (pw_and (PW.pt (pw_or (pt_cmpR op_gt (pv 4) pe_int (nomark _)) (pw_or1 (pt_cmpR op_ge (pv 2) pe_int (nomark _))))) (pw_and1 (pt_cmpR op_eq (pe_op op_mod (pe_op op_add (pv 2) (pe_op op_mul (pv 4) (pe_fld (pv 0) rfl))) (pv 3)) pe_int (nomark _))))) (pss_one (ps_ret (pe_tup (pa_cons (pv 4) (pa_cons (pv 2) pa_nil))))) pss_nil)))
      (pss_one (ps_ret pe_non))), ?_⟩
    refine ⟨_, rfl, _, rfl, _, _, rfl, rfl, .inl ⟨by decide, by decide⟩, _, _, rfl, rfl, half, 2 * size + 2, 2, size.toNat + 1, rfl, way_range hh z1 z2, ?_⟩
    have hz : ((size.toNat : Nat) : Int) = size := by omega
    refine for_it walk_rangeC (fun i σ' H' => H' = H ∧ (∃ x, σ' = [some (.ref p), some (.int half), some (.int number), some (.int size), x]) ∧
        ∀ j < i, wayOk r number size.toNat (half + (j : Int) * 2) = false) ⟨rfl, ⟨_, rfl⟩, fun j hj => absurd hj (by omega)⟩ (fun _ _ _ _ _ => trivial) ?_ ?_
    · rintro i x σ' H1 H2 hi ⟨e1, ⟨x', rfl⟩, hn⟩ ⟨e2, rfl⟩
      have e3 : H = H2 := (e2.trans e1).symm
      subst e3
      clear e1 e2
      have no : wayOk r number size.toNat (half + (i : Int) * 2) = false → (∀ j < i + 1, wayOk r number size.toNat (half + (j : Int) * 2) = false) := fun e j hj => by
        rcases Nat.lt_succ_iff_lt_or_eq.mp hj with hj | rfl
        · exact hn j hj
        · exact e
      have found : wayOk r number size.toNat (half + (i : Int) * 2) = true → wayS r half number size.toNat = some (half + (i : Int) * 2, number) := fun e => by
        unfold wayS
        have : (List.range (size.toNat + 1)).find? (fun (i : Nat) => wayOk r number size.toNat (half + (i : Int) * 2)) = some i := by
          rw [List.find?_eq_some_iff_getElem]
          refine ⟨e, i, by rw [List.length_range]; exact hi, by rw [List.getElem_range], fun j hj => ?_⟩
          rw [List.getElem_range, hn j hj]
          rfl
        rw [this]
        rfl
      have hi2 : i < 7 := by omega
      have eqn : (decide (half + (i : Int) * 2 > 0) || decide (number ≥ 0)) = true → wayOk r number size.toNat (half + (i : Int) * 2) = decide (V.int ((number + (half + (i : Int) * 2) * r) % size) = V.int 0) := fun e => by
        unfold wayOk
        rw [e, Bool.true_and, hz, Bool.eq_iff_iff]
        simp
      have fin : ∀ b : Bool, b = wayOk r number size.toNat (half + (i : Int) * 2) → b = true → ∀ q : Addr, H q = none → Q (.ref q) (upd H q (.tup [.int (half + (i : Int) * 2), .int number])) := fun b e1 e2 q hq => by
        rw [found (e1.symm.trans e2)] at k
        exact k _ q (Same.new hq) hq upd_same
      have bnd : -(2 ^ 64) < half + (i : Int) * 2 ∧ half + (i : Int) * 2 < 2 ^ 64 := by
        rcases hh with rfl | rfl <;> constructor <;> omega
      refine ⟨_, rfl, _, _, rfl, rfl, _, rfl, ?_⟩
      by_cases c1 : half + (i : Int) * 2 > 0
      · refine iteTd (decide_eq_true c1) (iteT ?_)
        refine ⟨_, rfl, _, rfl, _, rfl, p, _, dx, _, _, rfl, hp, T.c_Story, T.na_Story_remainder, rfl, _, _, rfl, rfl, .inl bnd, _, _, rfl, rfl, _, rfl, _, _, rfl, rfl, by show 0 < size; omega, rfl, _, rfl, ?_⟩
        have eq := eqn (by rw [decide_eq_true c1]; rfl)
        cases c2 : decide (V.int ((number + (half + (i : Int) * 2) * r) % size) = V.int 0) with
        | true => exact iteT ⟨_, rfl, _, rfl, by show 2 ≤ sizeLine; decide, fun q hq => fin _ eq.symm c2 q hq⟩
        | false => exact iteF ⟨rfl, ⟨_, rfl⟩, no (eq.trans c2)⟩
      · refine iteFd (decide_eq_false c1) ⟨_, rfl, _, _, rfl, rfl, _, rfl, ?_⟩
        by_cases c3 : number ≥ 0
        · refine iteTd (decide_eq_true c3) ?_
          refine ⟨_, rfl, _, rfl, _, rfl, p, _, dx, _, _, rfl, hp, T.c_Story, T.na_Story_remainder, rfl, _, _, rfl, rfl, .inl bnd, _, _, rfl, rfl, _, rfl, _, _, rfl, rfl, by show 0 < size; omega, rfl, _, rfl, ?_⟩
          have eq := eqn (by rw [decide_eq_true c3]; simp)
          cases c2 : decide (V.int ((number + (half + (i : Int) * 2) * r) % size) = V.int 0) with
          | true => exact iteT ⟨_, rfl, _, rfl, by show 2 ≤ sizeLine; decide, fun q hq => fin _ eq.symm c2 q hq⟩
          | false => exact iteF ⟨rfl, ⟨_, rfl⟩, no (eq.trans c2)⟩
        · exact iteFd (decide_eq_false c3) (iteF ⟨rfl, ⟨_, rfl⟩, no (by unfold wayOk; rw [decide_eq_false c1, decide_eq_false c3]; rfl)⟩)
    · rintro σ' H1 ⟨e1, ⟨x', rfl⟩, hn⟩
      subst e1
      have : wayS r half number size.toNat = none := by
        unfold wayS
        rw [List.find?_eq_none.mpr fun j hj => by rw [hn j (List.mem_range.mp hj)]; exact Bool.false_ne_true]
        rfl
      rw [this] at k
      exact k
end
end Rln
end
section
set_option Elab.async false
set_option linter.all false
set_option maxRecDepth 100000
set_option maxHeartbeats 4000000
namespace Rln
open PySem PySem.Spec PyProof.Rows L2
/-- another dict at h -/
theorem SWAt.setH {K : PySem.W.Frag} {H : Hp} {p h : Addr} {r : Int} {s : SW Str} {kvs : List (Key × V)} {l : List (Str × (Int × Int))} (L : SWAt K H p h r s) (R : HungS H kvs l) : SWAt K (upd H h (.dK kvs)) p h r ⟨s.stand, l⟩ := by
  have ne := L.ne
  obtain ⟨⟨dx, a, h1, h2⟩, kvs0, h3, h4⟩ := L
  have t : ∀ b q, H b = some (.tup (pairV q)) → b ≠ h := fun b q z => ne_of z h3 (by intro z; cases z)
  refine ⟨⟨dx, a, ?_, ?_⟩, kvs, upd_same, R.keep fun b q z => ?_⟩
  · rw [upd_ne (Ne.symm ne)]; exact h1
  · rw [upd_ne (t _ _ h2)]; exact h2
  · rw [upd_ne (t _ _ z)]; exact z
theorem SWOk.free {B : Int} {s : SW Str} (ok : SWOk B s) (far : Bool) : ∃ i, i ≤ s.hung.length ∧ freeS s far i = true := by
  refine Classical.byContradiction fun hn => ?_
  have occ : ∀ i, i ≤ s.hung.length → s.stand.2 + (i : Int) ∈ s.hung.map (·.2.2) := fun i hi => by
    have : freeS s far i = false := by
      cases e : freeS s far i with
      | false => rfl
      | true => exact absurd ⟨i, hi, e⟩ hn
    unfold freeS whoAt at this
    cases e : s.hung.find? fun p => decide (p.2 = ((s.stand.1 + b2 far) % 2, s.stand.2 + (i : Int))) with
    | none => rw [e] at this; cases this
    | some q =>
      have h1 := List.mem_of_find?_eq_some e
      have h2 : q.2 = ((s.stand.1 + b2 far) % 2, s.stand.2 + (i : Int)) := of_decide_eq_true (List.find?_some (p := fun (p : Str × (Int × Int)) => decide (p.2 = ((s.stand.1 + b2 far) % 2, s.stand.2 + (i : Int)))) e)
      exact List.mem_map.mpr ⟨q, h1, by rw [h2]⟩
  have nd : ((List.range (s.hung.length + 1)).map fun (i : Nat) => s.stand.2 + (i : Int)).Nodup :=
    nodup_map_inj List.nodup_range fun x hx y hy e => by omega
  have := sub_len nd fun x hx => by
    obtain ⟨i, hi, rfl⟩ := List.mem_map.mp hx
    exact occ i (by have := List.mem_range.mp hi; omega)
  rw [List.length_map, List.length_map, List.length_range] at this
  omega
section
variable {P : Program} {w : World} {K : PySem.W.Frag} {mg : Str → Option Value} {base : Heap}
/-- what a method of the story promises -/
def spSW (K : PySem.W.Frag) (args : List V) (r : Int → SW Str → SW Str × TV Str) (pre : SW Str → Prop) : Sp := fun vs H Q _ => ∃ p h re s B, vs = .ref p :: args ∧ SWAt K H p h re s ∧ SWOk B s ∧ B ≤ 1000 ∧ pre s ∧
  ∀ H' v, Sx2 p h H H' → SWAt K H' p h re (r re s).1 → TAt K H' v (r re s).2 → Q v H'
abbrev N_Story_peg : List Str := ["self", "window", "thing"]
theorem sc_Story_peg : FnScope N_Story_peg ["self", "window", "thing"] (defScope s_Story_peg) := ⟨rfl, rfl, rfl, by decide +kernel, rfl, by decide +kernel, by decide +kernel⟩
def spPegS (K : PySem.W.Frag) : Sp := fun vs H Q E => ∃ far t, spSW K [.str (wS far), .str t] (fun r s => tellPS r s (.peg far t)) (fun _ => True) vs H Q E
theorem met_pegS (T : Tx K mg) : Met P w K mg base 4 (cStory K) "peg" (spPegS K) [] := by
  refine metD T.f_Story_peg T.c_Story T.m_Story_peg sc_Story_peg (fun vs H Q E h => ?_) (fun _ _ _ _ _ _ us hl => match us, hl with | [_, _, _], _ => rfl) (fun cdv A outer s H vs Q E hr h => ?_)
  · obtain ⟨far, tk, p, h, d, s, B, rfl, _⟩ := h
    rfl
  · obtain ⟨far, t, p, h, r, s, B, rfl, L, ok, hB, _, k⟩ := h
    have hu := hu_of hr
    refine ⟨_, (pss_cons (ps_if (PW.pt (pw_or (pt_cmp (pc_din hu (pv 2) (pe_fld (pv 0) rfl))) (pw_or1 (pt_cmpR op_notN (C8.pe_mt (met_thingS T) hr (by decide) (pv 0) (pa_cons (pv 1) pa_nil)) pe_non (nomark _))))) (pss_one (ps_ret pe_bl)) pss_nil)
      (pss_cons (ps_dput hu (pe_fld (pv 0) rfl) (pv 2) (C8.pe_mt (met_spotS T) hr (by decide) (pv 0) (pa_cons (pv 1) pa_nil)) rfl)
      (pss_one (ps_ret pe_bl)))), ?_⟩
    obtain ⟨⟨dx, a, hp, ha⟩, kvs, hh, R⟩ := id L
    refine ⟨_, rfl, _, rfl, p, _, dx, _, _, rfl, hp, T.c_Story, T.na_Story_hung, rfl, h, _, rfl, DGet.k (k := Sum.inr t) hh, _, rfl, ?_⟩
    rcases R.val t with ⟨g1, g2⟩ | ⟨q, b, g1, g2, _⟩
    · rw [g2]
      refine iteF ⟨_, rfl, p, dx, _, rfl, hp, rfl, _, rfl, p, h, r, s, far, rfl, L, fun H1 e1 => ⟨rfl, _, rfl, ?_⟩⟩
      have e1 : Same H H1 := e1
      have L1 := L.mono e1
      obtain ⟨⟨dx, a, hp, ha⟩, kvs1, hh, R⟩ := id L1
      cases e2 : thingS s far with
      | some m =>
        have k' := k H1 (.bl false) (Same.sx2 e1)
        dsimp only at k'
        rw [show tellPS r s (.peg far t) = (s, .bl false) by simp [tellPS, g1, e2]] at k'
        exact iteT (k' L1 rfl)
      | none =>
        refine iteF ⟨_, rfl, p, dx, _, rfl, hp, rfl, _, rfl, p, h, r, s, far, rfl, L1.1, fun H2 b e2' hb hb2 => ?_⟩
        have L2 := L1.mono e2'
        have e2' : Same H1 H2 := e2'
        obtain ⟨⟨dx, a, hp, ha⟩, kvs2, hh, R⟩ := id L2
        rcases R.val t with ⟨_, g3⟩ | ⟨q, b, g4, _⟩
        · refine ⟨_, rfl, p, _, dx, _, _, rfl, hp, T.c_Story, T.na_Story_hung, rfl, _, rfl, h, _, rfl, DPut.k (k := Sum.inr t) hh ?_, ?_⟩
          · have := ok.len
            rw [R.len, sizeLine_eq]
            omega
          · rw [putK_new g3]
            have k' := k (upd H2 h (.dK (kvs2 ++ [(Sum.inr t, .ref b)]))) (.bl true) ((Same.sx2 (e1.trans e2')).putH)
            dsimp only at k'
            rw [show tellPS r s (.peg far t) = (⟨s.stand, s.hung ++ [(t, spotS s far)]⟩, .bl true) by simp [tellPS, g1, e2]] at k'
            exact k' (L2.setH (R.snoc hb2)) rfl
        · rw [g4] at g1
          cases g1
    · rw [g2]
      have k' := k H (.bl false) Sx2.refl
      dsimp only at k'
      rw [show tellPS r s (.peg far t) = (s, .bl false) by simp [tellPS, g1]] at k'
      exact iteT (iteT (k' L rfl))
abbrev N_Story_fetch : List Str := ["self", "window", "thing", "place", "half", "number"]
theorem sc_Story_fetch : FnScope N_Story_fetch ["self", "window", "thing"] (defScope s_Story_fetch) := ⟨rfl, rfl, rfl, by decide +kernel, rfl, by decide +kernel, by decide +kernel⟩
def spFetchS (K : PySem.W.Frag) : Sp := fun vs H Q E => ∃ far t, spSW K [.str (wS far), .str t] (fun r s => tellPS r s (.fetch far t)) (fun _ => True) vs H Q E
theorem gap_sm {B : Int} {s : SW Str} (ok : SWOk B s) (hB : B ≤ 1000) (far : Bool) {q : Int × Int} (hq : (q.1 = 0 ∨ q.1 = 1) ∧ -B ≤ q.2 ∧ q.2 ≤ B) : ((gapS s far q).1 = 0 ∨ (gapS s far q).1 = 1) ∧ -2000 ≤ (gapS s far q).2 ∧ (gapS s far q).2 ≤ 2000 := by
  have h1 := ok.s1
  unfold gapS spotS moved
  refine ⟨?_, ?_, ?_⟩
  · show (q.1 - (s.stand.1 + b2 far) % 2) % 2 = 0 ∨ (q.1 - (s.stand.1 + b2 far) % 2) % 2 = 1
    omega
  · show -2000 ≤ q.2 - (s.stand.2 + 0)
    omega
  · show q.2 - (s.stand.2 + 0) ≤ 2000
    omega
theorem met_fetchS (T : Tx K mg) : Met P w K mg base 5 (cStory K) "fetch" (spFetchS K) [] := by
  refine metD T.f_Story_fetch T.c_Story T.m_Story_fetch sc_Story_fetch (fun vs H Q E h => ?_) (fun _ _ _ _ _ _ us hl => match us, hl with | [_, _, _], _ => rfl) (fun cdv A outer s H vs Q E hr h => ?_)
  · obtain ⟨far, tk, p, h, d, s, B, rfl, _⟩ := h
    rfl
  · obtain ⟨far, t, p, h, r, s, B, rfl, L, ok, hB, _, k⟩ := h
    have hu := hu_of hr
    refine ⟨_, (pss_cons (ps_if (pt_cmp (pc_dnotin hu (pv 2) (pe_fld (pv 0) rfl))) (pss_one (ps_ret pe_non)) pss_nil)
      (pss_cons (ps_set (i := 3) sc_Story_fetch.nd rfl (Or.inl rfl) (pe_dget hu (pe_fld (pv 0) rfl) (pv 2) (fun _ _ => rfl)))
      (pss_cons (ps_asg (C8.pe_mt (met_gap T) hr (by decide) (pv 0) (pa_cons (pv 1) (pa_cons (pv 3) pa_nil))) (pg_tup rfl (pgs_cons (pg_name (i := 4) sc_Story_fetch.nd rfl (Or.inl rfl)) (pgs_cons (pg_name (i := 5) sc_Story_fetch.nd rfl (Or.inl rfl)) pgs_nil))))
      (pss_cons (ps_expr (C8.pe_mt (met_bring T) hr (by decide) (pv 0) (pa_cons (pv 1) (pa_cons (pv 3) pa_nil))))
      (pss_one (ps_ret (C8.pe_mk (mak_Form2 T) hr (by decide) (by rfl) (pa_cons (pv 5) (pa_cons (pe_ifExp (PW.pt (pw_and (pt_cmpR op_eq (pv 4) pe_int (nomark _)) (pw_and1 (pt_cmpR op_lt (pv 5) pe_int (nomark _))))) pe_int (pv 4)) pa_nil))))))))), ?_⟩
    obtain ⟨⟨dx, a, hp, ha⟩, kvs, hh, R⟩ := id L
    refine ⟨_, rfl, _, rfl, p, _, dx, _, _, rfl, hp, T.c_Story, T.na_Story_hung, rfl, h, _, rfl, DGet.k (k := Sum.inr t) hh, _, rfl, ?_⟩
    rcases R.val t with ⟨g1, g2⟩ | ⟨q, b, g1, g2, g3⟩
    · rw [g2]
      have k' := k H .non Sx2.refl
      dsimp only at k'
      rw [show tellPS r s (.fetch far t) = (s, .non) by simp [tellPS, g1]] at k'
      exact iteT (k' L rfl)
    · have g := DGet.k (k := Sum.inr t) hh
      rw [g2] at g
      rw [g2]
      refine iteF ⟨_, rfl, p, _, dx, _, _, rfl, hp, T.c_Story, T.na_Story_hung, rfl, _, rfl, h, _, rfl, g, ?_⟩
      refine ⟨_, rfl, p, dx, _, rfl, hp, rfl, _, rfl, _, rfl, p, h, r, s, far, b, q, rfl, L.1, g3, fun H1 c e1 hc hc1 => ?_⟩
      have L1 := L.mono e1
      have e1 : Same H H1 := e1
      refine ⟨c, _, rfl, SqT.of hc1, rfl, _, _, rfl, _, _, rfl, rfl, ?_⟩
      obtain ⟨⟨dx, a, hp, ha⟩, _⟩ := id L1
      refine ⟨_, rfl, p, dx, _, rfl, hp, rfl, _, rfl, _, rfl, p, h, r, s, far, b, q, rfl, L1, e1 _ _ g3, fun H2 e2 L2 => ?_⟩
      have gq : (q.1 = 0 ∨ q.1 = 1) ∧ -B ≤ q.2 ∧ q.2 ≤ B := (ok.gd _ (getK_mem g1)).2
      have gb := gap_sm ok hB far gq
      have last : ∀ z : Int, 0 ≤ z → z ≤ 2 → ∀ f fdx : Addr, H2 f = none → H2 fdx = none → fdx ≠ f → spFormI K (.ref f :: ([.int (gapS s far q).2, .int z] ++ [.int 1])) (upd (upd H2 fdx (.own f)) f (.ins (cForm K) fdx [])) (fun v H3 => v = .non ∧ Q (.ref f) H3) C8.E0 := fun z z0 z1 f fdx hf hfd nef => by
        refine ⟨f, fdx, _, _, _, rfl, upd_same, ⟨by omega, by omega⟩, ⟨by omega, by omega⟩, by decide, by decide, fun H3 s3 F => ⟨rfl, ?_⟩⟩
        have e3 : Same H2 H3 := Sx.made s3 hf hfd
        have k' := k H3 (.ref f) (((Same.sx2 e1).trans e2).trans (Same.sx2 e3))
        dsimp only at k'
        rw [show tellPS r s (.fetch far t) = (bringS s far q, .form) by simp [tellPS, g1]] at k'
        exact k' (L2.mono e3) F
      refine ⟨_, rfl, _, rfl, rfl, _, rfl, ?_⟩
      by_cases c1 : (gapS s far q).1 = 0
      · refine iteTd (decide_eq_true (congrArg V.int c1)) ⟨_, rfl, _, _, rfl, rfl, _, rfl, ?_⟩
        by_cases c2 : (gapS s far q).2 < 0
        · exact iteTd (decide_eq_true c2) (last 2 (by decide) (by decide))
        · exact iteFd (decide_eq_false c2) ⟨_, rfl, last _ (by omega) (by omega)⟩
      · exact iteFd (dec_ne fun z => c1 (V.int.inj z)) (iteF ⟨_, rfl, last _ (by omega) (by omega)⟩)
abbrev N_Story_hang : List Str := ["self", "window", "thing", "number"]
theorem sc_Story_hang : FnScope N_Story_hang ["self", "window", "thing"] (defScope s_Story_hang) := ⟨rfl, rfl, rfl, by decide +kernel, rfl, by decide +kernel, by decide +kernel⟩
def spHangS (K : PySem.W.Frag) : Sp := fun vs H Q E => ∃ far t, spSW K [.str (wS far), .str t] (fun r s => tellPS r s (.hang far t)) (fun _ => True) vs H Q E
theorem spotS_up (s : SW Str) (far : Bool) (i : Nat) : spotS ⟨(s.stand.1, s.stand.2 + (i : Int)), s.hung⟩ far = ((s.stand.1 + b2 far) % 2, s.stand.2 + (i : Int)) := by
  unfold spotS moved
  simp
theorem met_hangS (T : Tx K mg) : Met P w K mg base 5 (cStory K) "hang" (spHangS K) [] := by
  refine metD T.f_Story_hang T.c_Story T.m_Story_hang sc_Story_hang (fun vs H Q E h => ?_) (fun _ _ _ _ _ _ us hl => match us, hl with | [_, _, _], _ => rfl) (fun cdv A outer s H vs Q E hr h => ?_)
  · obtain ⟨far, tk, p, h, d, s, B, rfl, _⟩ := h
    rfl
  · obtain ⟨far, t, p, h, r, s, B, rfl, L, ok, hB, _, k⟩ := h
    have hu := hu_of hr
    refine ⟨_, (pss_cons (ps_if (pt_cmp (pc_din hu (pv 2) (pe_fld (pv 0) rfl))) (pss_one (ps_ret pe_non)) pss_nil)
      (pss_cons (ps_set (i := 3) sc_Story_hang.nd rfl (Or.inl rfl) pe_int)
      (pss_cons (ps_while PassesOwn.never (pt_cmpR op_notN (C8.pe_mt (met_thingS T) hr (by decide) (pv 0) (pa_cons (pv 1) pa_nil)) pe_non (nomark _)) (pss_cons (ps_fld (pv 0) (C8.pe_c (cal_moved T) hr (by decide) (by rfl) (pa_cons (pe_fld (pv 0) rfl) (pa_cons pe_int (pa_cons pe_int pa_nil)))) rfl)
      (pss_one (ps_aug (i := 3) sc_Story_hang.nd rfl (Or.inl rfl) pe_int ip_add))))
      (pss_cons (ps_dput hu (pe_fld (pv 0) rfl) (pv 2) (C8.pe_mt (met_spotS T) hr (by decide) (pv 0) (pa_cons (pv 1) pa_nil)) rfl)
      (pss_one (ps_ret (C8.pe_mk (mak_Form1 T) hr (by decide) (by rfl) (pa_cons (pv 3) pa_nil)))))))), ?_⟩
    obtain ⟨⟨dx, a, hp, ha⟩, kvs, hh, R⟩ := id L
    refine ⟨_, rfl, _, rfl, p, _, dx, _, _, rfl, hp, T.c_Story, T.na_Story_hung, rfl, h, _, rfl, DGet.k (k := Sum.inr t) hh, _, rfl, ?_⟩
    rcases R.val t with ⟨g1, g2⟩ | ⟨q, b, g1, g2, _⟩
    · rw [g2]
      refine iteF ?_
      have ok1 := firstN_ok (ok.free far)
      have nle := firstN_le (freeS s far) s.hung.length
      have len := ok.len
      refine while_by (fun σ' H' => ∃ i : Nat, i ≤ nS s far ∧ σ' = [some (.ref p), some (.str (wS far)), some (.str t), some (.int i)] ∧ Sx2 p h H H' ∧ SWAt K H' p h r ⟨(s.stand.1, s.stand.2 + (i : Int)), s.hung⟩)
          (fun σ' _ => match σ' with | [_, _, _, some (.int y)] => nS s far - y.toNat | _ => 0) ⟨0, Nat.zero_le _, rfl, Sx2.refl, ?_⟩ ?_ ?_
      · rw [show ((0 : Nat) : Int) = 0 from rfl, Int.add_zero]
        exact L
      · rintro σ' H1 ⟨i, hi, rfl, e1, L1⟩
        obtain ⟨⟨dx1, a1, hp1, ha1⟩, kvs1, hh1, R1⟩ := id L1
        refine ⟨_, rfl, p, dx1, _, rfl, hp1, rfl, _, rfl, p, h, r, _, far, rfl, L1, fun H2 e2 => ⟨rfl, _, rfl, ?_⟩⟩
        have L2 := L1.mono e2
        have e2 : Same H1 H2 := e2
        obtain ⟨⟨dx2, a2, hp2, ha2⟩, kvs2, hh2, R2⟩ := id L2
        rw [wh_none]
        have ef : (thingS ⟨(s.stand.1, s.stand.2 + (i : Int)), s.hung⟩ far).isNone = freeS s far i := by
          unfold thingS freeS
          rw [spotS_up]
        rw [ef]
        rcases Nat.lt_or_eq_of_le hi with hi' | rfl
        · have : freeS s far i = false := firstN_lt hi'
          refine iteTd (by rw [this]; rfl) ⟨_, rfl, p, _, dx2, _, _, rfl, hp2, T.c_Story, T.na_Story_stand, rfl, a2, _, 0, 1, rfl, SqT.of ha2, fun H3 b3 e3 hb3 hb3' => ?_⟩
          have e3 : Same H2 H3 := e3
          have L3 := L2.mono e3
          obtain ⟨⟨dx3, a3, hp3, ha3⟩, _⟩ := id L3
          refine ⟨_, rfl, p, _, dx3, _, rfl, hp3, T.c_Story, T.na_Story_stand, by show 3 < 1000; decide, ?_⟩
          refine ⟨_, rfl, _, _, rfl, rfl, ⟨i + 1, hi', rfl, ((e1.trans (Same.sx2 e2)).trans (Same.sx2 e3)).putP, ?_⟩, ?_⟩
          · have := L2.setStand (dx := dx3) e3 hb3'
            have e : moved (s.stand.1, s.stand.2 + (i : Int)) 0 1 = (s.stand.1, s.stand.2 + ((i + 1 : Nat) : Int)) := by
              unfold moved
              have := ok.s0
              show ((s.stand.1 + 0) % 2, s.stand.2 + (i : Int) + 1) = _
              congr 1 <;> omega
            rw [e] at this
            exact this
          · show nS s far - ((i : Int) + 1).toNat < nS s far - ((i : Int)).toNat
            omega
        · have : freeS s far (nS s far) = true := ok1
          refine iteFd (by rw [this]; rfl) ⟨_, rfl, p, dx2, _, rfl, hp2, rfl, _, rfl, p, h, r, _, far, rfl, L2.1, fun H3 b e3 hb hb3 => ?_⟩
          have e3 : Same H2 H3 := e3
          have L3 := L2.mono e3
          obtain ⟨⟨dx3, a3, hp3, ha3⟩, kvs3, hh3, R3⟩ := id L3
          rcases R3.val t with ⟨_, g3⟩ | ⟨q, b, g4, _⟩
          · refine ⟨_, rfl, p, _, dx3, _, _, rfl, hp3, T.c_Story, T.na_Story_hung, rfl, _, rfl, h, _, rfl, DPut.k (k := Sum.inr t) hh3 ?_, ?_⟩
            · rw [R3.len, sizeLine_eq]
              show s.hung.length < _
              omega
            · rw [putK_new g3]
              rw [spotS_up] at hb3
              have L4 := L3.setH (R3.snoc (t := t) hb3)
              generalize eH : upd H3 h (.dK (kvs3 ++ [(Sum.inr t, .ref b)])) = H4 at L4
              have e4 : Sx2 p h H H4 := by
                rw [← eH]
                exact ((e1.trans (Same.sx2 e2)).trans (Same.sx2 e3)).putH
              have nS4 : nS s far ≤ 4 := by
                have : nS s far ≤ s.hung.length := nle
                omega
              refine ⟨_, rfl, fun f fdx hf hfd nef => ⟨f, fdx, _, 0, 1, rfl, upd_same, ⟨by omega, by omega⟩, ⟨by decide, by decide⟩, by decide, by decide, fun H5 s5 F => ⟨rfl, ?_⟩⟩⟩
              have e5 : Same H4 H5 := Sx.made s5 hf hfd
              have k' := k H5 (.ref f) (e4.trans (Same.sx2 e5))
              dsimp only at k'
              rw [show tellPS r s (.hang far t) = (⟨(s.stand.1, s.stand.2 + (nS s far : Int)), s.hung ++ [(t, ((s.stand.1 + b2 far) % 2, s.stand.2 + (nS s far : Int)))]⟩, .form) by simp [tellPS, g1]] at k'
              exact k' (L4.mono e5) F
          · have g4 : getK s.hung t = some q := g4
            rw [g4] at g1
            cases g1
      · rintro σ' H' Q1 Q2 hq ⟨v, h1, a, b, c, h2, h3, h4, v2, h5, p', h', r', s', f', h6, h7, h9⟩
        exact ⟨v, h1, a, b, c, h2, h3, h4, v2, h5, p', h', r', s', f', h6, h7, fun H2 e2 => by
          obtain ⟨z1, z2, z3, z4⟩ := h9 H2 e2
          exact ⟨z1, z2, z3, hq _ _ z4⟩⟩
    · rw [g2]
      have k' := k H .non Sx2.refl
      dsimp only at k'
      rw [show tellPS r s (.hang far t) = (s, .non) by simp [tellPS, g1]] at k'
      exact iteT (k' L rfl)
end
end Rln
end
section
set_option Elab.async false
set_option linter.all false
set_option maxRecDepth 100000
set_option maxHeartbeats 4000000
namespace Rln
open PySem PySem.Spec PyProof.Rows L2
theorem SWAt.sxD {K : PySem.W.Frag} {H H' : Hp} {p h D : Addr} {r : Int} {s : SW Str} {xs : List V} (L : SWAt K H p h r s) (hD : H D = some (.lst xs)) (e : Sx D H H') : SWAt K H' p h r s := by
  obtain ⟨⟨dx, a, h1, h2⟩, kvs, h3, h4⟩ := L
  exact ⟨⟨dx, a, e _ _ (ne_of h1 hD (by intro z; cases z)) h1, e _ _ (ne_of h2 hD (by intro z; cases z)) h2⟩, kvs, e _ _ (ne_of h3 hD (by intro z; cases z)) h3, h4.keep fun b q z => e _ _ (ne_of z hD (by intro z; cases z)) z⟩
section
variable {P : Program} {w : World} {K : PySem.W.Frag} {mg : Str → Option Value} {base : Heap}
abbrev N_Story_walk : List Str := ["self", "window", "step", "found", "place", "half", "number", "way", "halves"]
theorem sc_Story_walk : FnScope N_Story_walk ["self", "window", "step"] (defScope s_Story_walk) := ⟨rfl, rfl, rfl, by decide +kernel, rfl, by decide +kernel, by decide +kernel⟩
def spWalkS (K : PySem.W.Frag) : Sp := fun vs H Q E => ∃ far st, spSW K [.str (wS far), .int st] (fun r s => tellPS r s (.walk far st)) (fun _ => st ≠ 0 ∧ -6 ≤ st ∧ st ≤ 6) vs H Q E
theorem met_walkS (T : Tx K mg) : Met P w K mg base 5 (cStory K) "walk" (spWalkS K) [] := by
  refine metD T.f_Story_walk T.c_Story T.m_Story_walk sc_Story_walk (fun vs H Q E h => ?_) (fun _ _ _ _ _ _ us hl => match us, hl with | [_, _, _], _ => rfl) (fun cdv A outer s H vs Q E hr h => ?_)
  · obtain ⟨far, tk, p, h, d, s, B, rfl, _⟩ := h
    rfl
  · obtain ⟨far, st, p, h, r, s, B, rfl, L, ok, hB, ⟨n0, n1, n2⟩, k⟩ := h
    have hu := hu_of hr
    refine ⟨_, (pss_cons (ps_set (i := 3) sc_Story_walk.nd rfl (Or.inl rfl) (pe_lst pa_nil))
      (pss_cons (ps_lock (ps_for PassesOwn.never rfl (pi_values (pe_fld (pv 0) rfl)) (pg_name (i := 4) sc_Story_walk.nd rfl (Or.inl rfl)) (pss_cons (ps_asg (C8.pe_mt (met_gap T) hr (by decide) (pv 0) (pa_cons (pv 1) (pa_cons (pv 4) pa_nil))) (pg_tup rfl (pgs_cons (pg_name (i := 5) sc_Story_walk.nd rfl (Or.inl rfl)) (pgs_cons (pg_name (i := 6) sc_Story_walk.nd rfl (Or.inl rfl)) pgs_nil))))
      (pss_cons (ps_set (i := 7) sc_Story_walk.nd rfl (Or.inl rfl) (C8.pe_mt (met_way T) hr (by decide) (pv 0) (pa_cons (pv 5) (pa_cons (pe_ifExp (pt_cmpR op_gt (pv 2) pe_int (nomark _)) (pv 6) (pe_un un_neg (pv 6))) (pa_cons (pe_callB call_abs (by rfl) T.n_abs (by decide +kernel) (pa_cons (pv 2) pa_nil)) pa_nil)))))
      (pss_one (ps_if (pt_cmpR op_notN (pv 7) pe_non (nomark _)) (pss_one (ps_expr (pe_bm PySem.F.plainAttrs_list PySem.F.slot_list_append PySem.F.type_list_append mt_append (pv 3) (pa_cons (pe_tup (pa_cons (pv 7) (pa_cons (pv 4) pa_nil))) pa_nil)))) pss_nil))))))
      (pss_cons (ps_if (pt_cmpR (op_eqD hr.units) (pv 3) (pe_lst pa_nil) (nomark _)) (pss_one (ps_ret pe_non)) pss_nil)
      (pss_cons (ps_asg (pe_callB (cr_minW rfl hr.units) (by rfl) T.n_min (by decide +kernel) (pa_cons (pv 3) pa_nil)) (pg_tup rfl (pgs_cons (pg_tup rfl (pgs_cons (pg_name (i := 8) sc_Story_walk.nd rfl (Or.inl rfl)) (pgs_cons (pg_name (i := 6) sc_Story_walk.nd rfl (Or.inl rfl)) pgs_nil))) (pgs_cons (pg_name (i := 4) sc_Story_walk.nd rfl (Or.inl rfl)) pgs_nil))))
      (pss_cons (ps_expr (C8.pe_mt (met_bring T) hr (by decide) (pv 0) (pa_cons (pv 1) (pa_cons (pv 4) pa_nil))))
      (pss_one (ps_ret (C8.pe_mk (mak_Form3 T) hr (by decide) (by rfl) (pa_cons (pv 6) (pa_cons (pv 8) (pa_cons (pe_callB call_abs (by rfl) T.n_abs (by decide +kernel) (pa_cons (pv 2) pa_nil)) pa_nil))))))))))), ?_⟩
    have ab : (if st < 0 then -st else st) = (st.natAbs : Int) := by split <;> omega
    have len := ok.len
    refine ⟨by decide, fun D hD => ?_⟩
    have e0 : Same H (upd H D (.lst [])) := Same.new hD
    have hD0 : upd H D (.lst []) D = some (.lst []) := upd_same
    have L0 := L.mono e0
    generalize upd H D (.lst []) = H0 at e0 hD0 L0
    obtain ⟨⟨dx, a, hp, ha⟩, kvs, hh, R⟩ := id L0
    have nph : p ≠ h := Ne.symm L0.ne
    have nDh : D ≠ h := ne_of hD0 hh (by intro z; cases z)
    refine ⟨h, _, hh, trivial, fun od => ?_⟩
    have tupL : ∀ b xs, H0 b = some (.tup xs) → upd H0 h (.frz od (.dK kvs)) b = some (.tup xs) := fun b xs z => by
      rw [upd_ne (ne_of z hh (by intro z; cases z))]
      exact z
    have hp1 : upd H0 h (.frz od (.dK kvs)) p = some (.ins (cStory K) dx [("remainder", .int r), ("stand", .ref a), ("hung", .ref h)]) := by
      rw [upd_ne nph]
      exact hp
    have hD1 : upd H0 h (.frz od (.dK kvs)) D = some (.lst []) := by
      rw [upd_ne nDh]
      exact hD0
    have R1 : HungS (upd H0 h (.frz od (.dK kvs))) kvs s.hung := R.keep fun b q z => tupL _ _ z
    have hh1 : upd H0 h (.frz od (.dK kvs)) h = some (.frz od (.dK kvs)) := upd_same
    have ha1 := tupL _ _ ha
    have back : ∀ H1, Sx D (upd H0 h (.frz od (.dK kvs))) H1 → Sx D H0 (upd H1 h (.dK kvs)) := fun H1 e b u n z => by
      by_cases hb : b = h
      · subst hb
        rw [upd_same, ← hh]
        exact z
      · rw [upd_ne hb]
        exact e b u n (by rw [upd_ne hb]; exact z)
    generalize upd H0 h (.frz od (.dK kvs)) = HL at hp1 hD1 R1 hh1 ha1 back
    have LI : SWI K HL p h r s := ⟨dx, a, hp1, ha1⟩
    refine ⟨_, rfl, p, _, dx, _, _, rfl, hp1, T.c_Story, T.na_Story_hung, rfl, h, od, _, rfl, hh1, ?_⟩
    refine for_it walk_values (fun i σ' H' => Sx D HL H' ∧ (∃ x1 x2 x3 x4 x5, σ' = [some (.ref p), some (.str (wS far)), some (.int st), some (.ref D), x1, x2, x3, x4, x5]) ∧
        ∃ vs, H' D = some (.lst vs) ∧ WaysS H' vs ((s.hung.take i).filterMap fun q => (wayTo r s far st q.2).map fun w => (w, q.2))) ⟨fun _ _ _ z => z, ⟨_, _, _, _, _, rfl⟩, [], hD1, .nil⟩ (fun i σ' H' _ hP => hP.1 _ _ (Ne.symm nDh) hh1) ?_ ?_
    · rintro i x σ' H1 H2 hi ⟨e1, ⟨x1, x2, x3, x4, x5, rfl⟩, vs, hv, W⟩ ⟨eH, key, hk⟩
      have eH2 : H1 = H2 := eH.symm
      subst eH2
      have hi' : i < s.hung.length := by rw [← R.len]; exact hi
      obtain ⟨b, eq1, hb⟩ := R1.get (List.getElem?_eq_getElem hi')
      rw [eq1] at hk
      cases hk
      have tD : ∀ {b : Addr} {xs : List V}, HL b = some (.tup xs) → b ≠ D := fun z => ne_of z hD1 (by intro z; cases z)
      have hp2 := e1 _ _ (ne_of hp1 hD1 (by intro z; cases z)) hp1
      have ha2 := e1 _ _ (tD ha1) ha1
      have hb2 := e1 _ _ (tD hb) hb
      have gq : ((s.hung[i]).2.1 = 0 ∨ (s.hung[i]).2.1 = 1) ∧ -B ≤ (s.hung[i]).2.2 ∧ (s.hung[i]).2.2 ≤ B := (ok.gd _ (List.getElem_mem hi')).2
      have gb := gap_sm ok hB far gq
      refine ⟨_, rfl, p, dx, _, rfl, hp2, rfl, _, rfl, _, rfl, p, h, r, s, far, b, _, rfl, ⟨dx, a, hp2, ha2⟩, hb2, fun H3 c e3 hc hc3 => ?_⟩
      have e3 : Same H1 H3 := e3
      refine ⟨c, _, rfl, SqT.of hc3, rfl, _, _, rfl, _, _, rfl, rfl, ?_⟩
      have hp3 := e3 _ _ hp2
      have ha3 := e3 _ _ ha2
      have hb3 := e3 _ _ hb2
      have hv3 := e3 _ _ hv
      have W3 := W.keep fun b xs z => e3 _ _ z
      have hd : Sx D HL H3 := e1.trans (Same.sx e3)
      -- the way
      have step : ∀ (num : Int), num = (if st > 0 then (gapS s far s.hung[i].2).2 else -(gapS s far s.hung[i].2).2) → (wayS r (gapS s far s.hung[i].2).1 num st.natAbs).map (fun w => (w, s.hung[i].2)) = (wayTo r s far st s.hung[i].2).map fun w => (w, s.hung[i].2) := fun num e => by rw [e]; rfl
      have wl : ((s.hung.take (i + 1)).filterMap fun q => (wayTo r s far st q.2).map fun w => (w, q.2)) = ((s.hung.take i).filterMap fun q => (wayTo r s far st q.2).map fun w => (w, q.2)) ++ ((wayTo r s far st s.hung[i].2).map fun w => (w, s.hung[i].2)).toList := filterMap_take_succ _ _ _ hi'
      have lenW : vs.length ≤ 4 := by
        rw [W.len]
        have := List.length_filterMap_le (fun q : Str × (Int × Int) => (wayTo r s far st q.2).map fun w => (w, q.2)) (s.hung.take i)
        rw [List.length_take] at this
        omega
      by_cases c1 : st > 0
      · refine ⟨_, rfl, p, dx, _, rfl, hp3, rfl, _, rfl, _, rfl, _, _, rfl, rfl, _, rfl, iteTd (decide_eq_true c1) ⟨_, rfl, _, rfl, _, rfl, p, h, r, s, _, _, _, rfl, ⟨dx, a, hp3, ha3⟩, gb.1, by rw [ab]; omega, by rw [ab]; omega, ?_⟩⟩
        rw [ab, Int.toNat_natCast]
        have st1 := step (gapS s far s.hung[i].2).2 (by rw [if_pos c1])
        rw [← st1] at wl
        cases ew : wayS r (gapS s far s.hung[i].2).1 (gapS s far s.hung[i].2).2 st.natAbs with
        | none =>
          rw [ew] at wl
          exact ⟨_, rfl, rfl, _, rfl, iteF ⟨hd, ⟨_, _, _, _, _, rfl⟩, vs, hv3, by rw [wl]; simpa using W3⟩⟩
        | some q =>
          rw [ew] at wl
          intro H4 g e4 hg hg4
          have e4 : Same H3 H4 := e4
          refine ⟨_, rfl, rfl, _, rfl, iteT ⟨_, rfl, .inl ⟨rfl, _, SqL.of (e4 _ _ hv3)⟩, _, rfl, _, rfl, by show 2 ≤ sizeLine; decide, fun t ht => ?_⟩⟩
          have hv4 := e4 _ _ hv3
          have nDt : D ≠ t := ne_of_none hv4 ht
          refine ⟨D, vs, _, rfl, rfl, by rw [upd_ne nDt]; exact hv4, by rw [sizeLine_eq]; omega, ?_⟩
          have keepT : ∀ c' xs, H4 c' = some (.tup xs) → upd (upd H4 t (.tup [.ref g, .ref b])) D (.lst (vs ++ [.ref t])) c' = some (.tup xs) := fun c' xs z => by
            rw [upd_ne (ne_of z hv4 (by intro z; cases z)), upd_ne (ne_of_none z ht)]
            exact z
          refine ⟨fun c' u n z => ?_, ⟨_, _, _, _, _, rfl⟩, _, upd_same, ?_⟩
          · have z4 := e4 _ _ (hd c' u n z)
            rw [upd_ne n, upd_ne (ne_of_none z4 ht)]
            exact z4
          · rw [wl]
            refine ((W3.keep fun b xs z => e4 _ _ z).keep keepT).snoc (b := g) (c := b) ?_ (keepT _ _ hg4) (keepT _ _ (e4 _ _ hb3))
            rw [upd_ne (Ne.symm nDt), upd_same]
      · refine ⟨_, rfl, p, dx, _, rfl, hp3, rfl, _, rfl, _, rfl, _, _, rfl, rfl, _, rfl, iteFd (decide_eq_false c1) ⟨_, rfl, _, rfl, _, rfl, _, rfl, p, h, r, s, _, _, _, rfl, ⟨dx, a, hp3, ha3⟩, gb.1, by rw [ab]; omega, by rw [ab]; omega, ?_⟩⟩
        rw [ab, Int.toNat_natCast]
        have st1 := step (-(gapS s far s.hung[i].2).2) (by rw [if_neg c1])
        rw [← st1] at wl
        cases ew : wayS r (gapS s far s.hung[i].2).1 (-(gapS s far s.hung[i].2).2) st.natAbs with
        | none =>
          rw [ew] at wl
          exact ⟨_, rfl, rfl, _, rfl, iteF ⟨hd, ⟨_, _, _, _, _, rfl⟩, vs, hv3, by rw [wl]; simpa using W3⟩⟩
        | some q =>
          rw [ew] at wl
          intro H4 g e4 hg hg4
          have e4 : Same H3 H4 := e4
          refine ⟨_, rfl, rfl, _, rfl, iteT ⟨_, rfl, .inl ⟨rfl, _, SqL.of (e4 _ _ hv3)⟩, _, rfl, _, rfl, by show 2 ≤ sizeLine; decide, fun t ht => ?_⟩⟩
          have hv4 := e4 _ _ hv3
          have nDt : D ≠ t := ne_of_none hv4 ht
          refine ⟨D, vs, _, rfl, rfl, by rw [upd_ne nDt]; exact hv4, by rw [sizeLine_eq]; omega, ?_⟩
          have keepT : ∀ c' xs, H4 c' = some (.tup xs) → upd (upd H4 t (.tup [.ref g, .ref b])) D (.lst (vs ++ [.ref t])) c' = some (.tup xs) := fun c' xs z => by
            rw [upd_ne (ne_of z hv4 (by intro z; cases z)), upd_ne (ne_of_none z ht)]
            exact z
          refine ⟨fun c' u n z => ?_, ⟨_, _, _, _, _, rfl⟩, _, upd_same, ?_⟩
          · have z4 := e4 _ _ (hd c' u n z)
            rw [upd_ne n, upd_ne (ne_of_none z4 ht)]
            exact z4
          · rw [wl]
            refine ((W3.keep fun b xs z => e4 _ _ z).keep keepT).snoc (b := g) (c := b) ?_ (keepT _ _ hg4) (keepT _ _ (e4 _ _ hb3))
            rw [upd_ne (Ne.symm nDt), upd_same]
    · rintro σ' H1 ⟨e1, ⟨x1, x2, x3, x4, x5, rfl⟩, vs, hv, W⟩
      have hhL := e1 _ _ (Ne.symm nDh) hh1
      refine ⟨hhL, ?_⟩
      have hv2 : upd H1 h (.dK kvs) D = some (.lst vs) := by
        rw [upd_ne nDh]
        exact hv
      have W2 := W.keep (H' := upd H1 h (.dK kvs)) fun b xs z => by
        rw [upd_ne (ne_of z hhL (by intro z; cases z))]
        exact z
      have L2 := L0.sxD hD0 (back H1 e1)
      have eS : Same H (upd H1 h (.dK kvs)) := fun b u z => back H1 e1 b u (ne_of_none z hD) (e0 b u z)
      generalize upd H1 h (.dK kvs) = H2 at hv2 W2 L2 eS
      rw [R.len, List.take_length] at W2
      generalize el : (s.hung.filterMap fun q => (wayTo r s far st q.2).map fun w => (w, q.2)) = l at W2
      have lenL : l.length ≤ 4 := by
        rw [← el]
        exact Nat.le_trans (List.length_filterMap_le _ _) len
      refine ⟨_, rfl, by decide, fun E' hE => ?_⟩
      have e3 : Same H2 (upd H2 E' (.lst [])) := Same.new hE
      have hE' : upd H2 E' (.lst []) E' = some (.lst []) := upd_same
      generalize upd H2 E' (.lst []) = H3 at e3 hE'
      have L3 := L2.mono e3
      have W3 := W2.keep fun b xs z => e3 _ _ z
      have hv3 := e3 _ _ hv2
      refine ⟨.list (l.map wD), .list [], .lst (SqL.of hv3) W3.dp, .lst (SqL.of hE') .nil, ?_, rfl, _, rfl, ?_⟩
      · unfold SeqAt.shaped
        rw [Bool.and_eq_true]
        have hd := ws_depth l
        have hl : PyData.canLayAll0 (l.map wD) = true := by
          clear W3 W2 hd lenL el
          induction l with
          | nil => simp [PyData.canLayAll0]
          | cons x l ih => simp [PyData.canLayAll0, ih, wD, PyData.canLay0]
        refine ⟨by simp [PyData.canLay0, hl], ?_⟩
        have : PyData.depthAll (l.map wD) ≤ 2 := hd
        simp only [PyData.depth]
        exact decide_eq_true (by omega)
      · cases l with
        | nil =>
          have k' := k H3 .non (Same.sx2 (eS.trans e3))
          dsimp only at k'
          rw [show tellPS r s (.walk far st) = (s, .non) by simp only [tellPS, waysS, el, minW]] at k'
          exact iteTd (by simp [PyData.eqv, PyData.eqvAll]) (k' L3 rfl)
        | cons x l =>
          refine iteFd (by simp [PyData.eqv, PyData.eqvAll]) ?_
          refine ⟨_, rfl, D, vs, wD x, l.map wD, rfl, SqL.of hv3, W3.dp, ws_alike (x :: l), ws_lay (x :: l), by have := ws_depth (x :: l); rw [List.map_cons] at this; omega, fun i u hu hd => ?_⟩
          rw [minD_w] at hd
          have hi : i < (x :: l).length := by
            have := (List.getElem?_eq_some_iff.mp hd).1
            rw [List.length_cons, List.length_map] at this
            exact this
          have hx : (x :: l)[i]? = some (l.foldl (fun a y => if ltW y a then y else a) x) := by
            rw [List.getElem?_eq_getElem hi]
            have h2 : ((x :: l).map wD)[i]? = some (wD (l.foldl (fun a y => if ltW y a then y else a) x)) := hd
            rw [List.getElem?_map, List.getElem?_eq_getElem hi] at h2
            exact congrArg some (wD_inj (Option.some.inj h2))
          obtain ⟨t, b, c, e1', ht, hb, hc⟩ := W3.get hx
          rw [e1'] at hu
          cases hu
          have emin : minW (waysS r s far st) = some (l.foldl (fun a y => if ltW y a then y else a) x) := by unfold waysS; rw [el]; rfl
          have hmem : (l.foldl (fun a y => if ltW y a then y else a) x) ∈ x :: l := List.mem_of_getElem? hx
          generalize l.foldl (fun a y => if ltW y a then y else a) x = m at hx hb hc emin hmem
          have mfact : (∃ q ∈ s.hung, m.2 = q.2) ∧ -2000 ≤ m.1.2 ∧ m.1.2 ≤ 2000 ∧ 0 ≤ m.1.1 ∧ m.1.1 ≤ 20 := by
            rw [← el] at hmem
            obtain ⟨q, hq, e⟩ := List.mem_filterMap.mp hmem
            obtain ⟨wq, e1q, e2q⟩ := Option.map_eq_some_iff.mp e
            subst e2q
            have gq : (q.2.1 = 0 ∨ q.2.1 = 1) ∧ -B ≤ q.2.2 ∧ q.2.2 ≤ B := (ok.gd _ hq).2
            have gb := gap_sm ok hB far gq
            unfold wayTo wayS at e1q
            obtain ⟨j, hj, ej⟩ := Option.map_eq_some_iff.mp e1q
            have hj2 := List.mem_range.mp (List.mem_of_find?_eq_some hj)
            subst ej
            refine ⟨⟨q, hq, rfl⟩, ?_⟩
            dsimp only
            refine ⟨?_, ?_, ?_, ?_⟩
            · split <;> omega
            · split <;> omega
            · omega
            · omega
          obtain ⟨⟨dx3, a3, hp3, ha3⟩, _⟩ := id L3
          refine ⟨t, _, rfl, SqT.of ht, rfl, _, _, rfl, b, _, rfl, SqT.of hb, rfl, _, _, rfl, _, _, rfl, rfl, _, _, rfl, rfl, ?_⟩
          refine ⟨_, rfl, p, dx3, _, rfl, hp3, rfl, _, rfl, _, rfl, p, h, r, s, far, c, m.2, rfl, L3, hc, fun H4 e4 L4 => ?_⟩
          refine ⟨_, rfl, _, rfl, _, rfl, _, rfl, fun f fdx hf hfd nef => ⟨f, fdx, _, _, _, rfl, upd_same, ⟨by omega, by omega⟩, ⟨by omega, by omega⟩, by rw [ab]; omega, by rw [ab]; omega, fun H5 s5 F => ⟨rfl, ?_⟩⟩⟩
          have e5 : Same H4 H5 := Sx.made s5 hf hfd
          have k' := k H5 (.ref f) (((Same.sx2 (eS.trans e3)).trans e4).trans (Same.sx2 e5))
          dsimp only at k'
          rw [show tellPS r s (.walk far st) = (bringS s far m.2, .form) by simp only [tellPS, emin]] at k'
          exact k' (L4.mono e5) F
end
end Rln
end
section
set_option Elab.async false
set_option linter.all false
set_option maxRecDepth 100000
set_option maxHeartbeats 4000000
namespace Rln
open PySem PySem.Spec PyProof.Rows L2
theorem SWOk.more {B B' : Int} {s : SW Str} (ok : SWOk B s) (h : B ≤ B') : SWOk B' s := by
  have b0 := ok.b0
  refine ⟨by omega, ok.s0, by have := ok.s1; omega, ok.nd, fun q hq => ?_⟩
  have := ok.gd q hq
  exact ⟨this.1, this.2.1, by omega, by omega⟩
theorem SWOk.put {B : Int} {s : SW Str} (ok : SWOk B s) {t : Str} {q : Int × Int} (h1 : getK s.hung t = none) (ht : goodT t) (h2 : q.1 = 0 ∨ q.1 = 1) (h3 : -B ≤ q.2) (h4 : q.2 ≤ B) : SWOk B ⟨s.stand, s.hung ++ [(t, q)]⟩ := by
  refine ⟨ok.b0, ok.s0, ok.s1, ?_, fun x hx => ?_⟩
  · rw [List.map_append, List.nodup_append]
    refine ⟨ok.nd, by simp, fun a ha b hb => ?_⟩
    have hb : b = t := by simpa using hb
    subst hb
    exact fun e => getK_none.mp h1 (e ▸ ha)
  · rcases List.mem_append.mp hx with hx | hx
    · exact ok.gd x hx
    · have hx : x = (t, q) := by simpa using hx
      subst hx
      exact ⟨ht, h2, h3, h4⟩
theorem SWOk.at {B : Int} {s : SW Str} (ok : SWOk B s) {q : Int × Int} (h2 : q.1 = 0 ∨ q.1 = 1) (h3 : -B ≤ q.2) (h4 : q.2 ≤ B) : SWOk B ⟨q, s.hung⟩ := ⟨ok.b0, h2, ⟨h3, h4⟩, ok.nd, ok.gd⟩
theorem SWOk.step {B r : Int} {s : SW Str} {p : PD Str} (ok : SWOk B s) (hp : pdOk p) : SWOk (B + 4) (tellPS r s p).1 := by
  have ok4 := ok.more (B' := B + 4) (by omega)
  have s1 := ok.s1
  have s0 := ok.s0
  cases p with
  | pull n =>
    have : -3 ≤ n ∧ n ≤ 3 := hp.2
    exact ok4.at (by show (s.stand.1 + 0) % 2 = 0 ∨ (s.stand.1 + 0) % 2 = 1; omega) (by show -(B + 4) ≤ s.stand.2 + n; omega) (by show s.stand.2 + n ≤ B + 4; omega)
  | peg far t =>
    dsimp only [tellPS]
    split
    · exact ok4
    · next hc =>
      rw [Bool.or_eq_true, not_or] at hc
      exact ok4.put (by simpa using hc.1) hp (by show (s.stand.1 + b2 far) % 2 = 0 ∨ (s.stand.1 + b2 far) % 2 = 1; omega) (by show -(B + 4) ≤ s.stand.2 + 0; omega) (by show s.stand.2 + 0 ≤ B + 4; omega)
  | hang far t =>
    dsimp only [tellPS]
    split
    · exact ok4
    · next hc =>
      have n4 : nS s far ≤ 4 := Nat.le_trans (firstN_le _ _) ok.len
      exact (ok4.at (q := (s.stand.1, s.stand.2 + (nS s far : Int))) s0 (by show -(B + 4) ≤ s.stand.2 + (nS s far : Int); omega) (by show s.stand.2 + (nS s far : Int) ≤ B + 4; omega)).put (by simpa using hc) hp
        (by show (s.stand.1 + b2 far) % 2 = 0 ∨ (s.stand.1 + b2 far) % 2 = 1; omega) (by show -(B + 4) ≤ s.stand.2 + (nS s far : Int); omega) (by show s.stand.2 + (nS s far : Int) ≤ B + 4; omega)
  | fetch far t =>
    dsimp only [tellPS]
    split
    · exact ok4
    · next q hq =>
      have := (ok4.gd _ (getK_mem hq)).2
      have h1 : -(B + 4) ≤ q.2 := this.2.1
      have h2 : q.2 ≤ B + 4 := this.2.2
      exact ok4.at (by show (q.1 + b2 far) % 2 = 0 ∨ (q.1 + b2 far) % 2 = 1; omega) (by show -(B + 4) ≤ q.2 + 0; omega) (by show q.2 + 0 ≤ B + 4; omega)
  | walk far st =>
    dsimp only [tellPS]
    split
    · exact ok4
    · next m hm =>
      have hmem : m ∈ waysS r s far st := by
        cases e : waysS r s far st with
        | nil => rw [e] at hm; cases hm
        | cons x l =>
          rw [e] at hm
          cases hm
          have : ∀ (l : List ((Int × Int) × (Int × Int))) x, l.foldl (fun a y => if ltW y a then y else a) x ∈ x :: l := fun l => by
            induction l with
            | nil => intro x; exact List.mem_cons_self ..
            | cons y l ih =>
              intro x
              rw [List.foldl_cons]
              have := ih (if ltW y x then y else x)
              rcases List.mem_cons.mp this with e | e
              · rw [e]
                split
                · exact List.mem_cons_of_mem _ (List.mem_cons_self ..)
                · exact List.mem_cons_self ..
              · exact List.mem_cons_of_mem _ (List.mem_cons_of_mem _ e)
          exact this l x
      obtain ⟨q, hq, e⟩ := List.mem_filterMap.mp hmem
      obtain ⟨wq, e1q, e2q⟩ := Option.map_eq_some_iff.mp e
      subst e2q
      have := (ok4.gd _ hq).2
      exact ok4.at (by show (q.2.1 + b2 far) % 2 = 0 ∨ (q.2.1 + b2 far) % 2 = 1; omega) (by show -(B + 4) ≤ q.2.2 + 0; omega) (by show q.2.2 + 0 ≤ B + 4; omega)
  | take far =>
    dsimp only [tellPS]
    split
    · exact ok4
    · exact ⟨ok4.b0, ok4.s0, ok4.s1, (List.filter_sublist.map _).nodup ok4.nd, fun q hq => ok4.gd q (List.mem_filter.mp hq).1⟩
  | look far =>
    dsimp only [tellPS]
    split
    · exact ok4
    · exact ok4
theorem SWOk.stepD {B r : Int} {s : SW Str} {x : Deed Str} (ok : SWOk B s) (hp : deedOk x) : SWOk (B + 4) (tellS r s x).1 := by
  cases x with
  | pl p => exact ok.step hp
  | whn f wh p =>
    dsimp only [tellS]
    split
    · exact ok.step hp.2
    · exact ok.more (by omega)
theorem SWOk.start : SWOk 0 sw0 := ⟨Int.le_refl _, .inl rfl, ⟨by decide, by decide⟩, List.nodup_nil, fun q hq => nomatch hq⟩
theorem runS_snoc (r : Int) (x : Deed Str) : ∀ (ds : List (Deed Str)) (s : SW Str), runS r s (ds ++ [x]) = ((tellS r (runS r s ds).1 x).1, (runS r s ds).2 ++ [(tellS r (runS r s ds).1 x).2])
  | [], s => rfl
  | y :: ds, s => by
    rw [List.cons_append, runS, runS_snoc r x ds]
    rfl
theorem runS_len (r : Int) : ∀ (ds : List (Deed Str)) (s : SW Str), (runS r s ds).2.length = ds.length
  | [], s => rfl
  | y :: ds, s => by rw [runS, List.length_cons, List.length_cons, runS_len r ds]
theorem SWOk.run {r : Int} : ∀ (ds : List (Deed Str)) {B : Int} {s : SW Str}, SWOk B s → (∀ x ∈ ds, deedOk x) → SWOk (B + 4 * ds.length) (runS r s ds).1
  | [], _, _, ok, _ => ok.more (by show _ ≤ _ + 4 * ((0 : Nat) : Int); omega)
  | y :: ds, B, s, ok, h => by
    rw [runS]
    refine (SWOk.run ds (ok.stepD (r := r) (h y (List.mem_cons_self ..))) fun x hx => h x (List.mem_cons_of_mem _ hx)).more ?_
    rw [List.length_cons]
    omega
theorem DAt.sx2S {K : PySem.W.Frag} {H H' : Hp} {p h : Addr} {d : Int} {s : SW Str} {v : V} {x : Deed Str} (e : Sx2 p h H H') (L : SWAt K H p h d s) (D : DAt H v x) : DAt H' v x := by
  obtain ⟨⟨dx, n, hp, _⟩, kvs, hh, _⟩ := L
  have t : ∀ {a : Addr} {xs : List V}, H a = some (.tup xs) → H' a = some (.tup xs) := fun {a xs} z => e _ _ (ne_of z hp (by intro z; cases z)) (ne_of z hh (by intro z; cases z)) z
  cases x with
  | pl p =>
    obtain ⟨a, rfl, h⟩ := D
    exact ⟨a, rfl, t h⟩
  | whn f w p =>
    obtain ⟨a, b, rfl, h1, h2⟩ := D
    exact ⟨a, b, rfl, t h1, t h2⟩
section
variable {P : Program} {w : World} {K : PySem.W.Frag} {mg : Str → Option Value} {base : Heap}
def spTellS (K : PySem.W.Frag) : Sp := fun vs H Q _ => ∃ p h r s B v x, vs = [.ref p, v] ∧ DAt H v x ∧ deedOk x ∧ SWAt K H p h r s ∧ SWOk B s ∧ B ≤ 1000 ∧
  ∀ H' u, Sx2 p h H H' → SWAt K H' p h r (tellS r s x).1 → TAt K H' u (tellS r s x).2 → Q u H'
def spTellS0 (K : PySem.W.Frag) : Sp := fun vs H Q _ => ∃ p h r s B a x, vs = [.ref p, .ref a] ∧ H a = some (.tup (pdV x)) ∧ pdOk x ∧ SWAt K H p h r s ∧ SWOk B s ∧ B ≤ 1000 ∧
  ∀ H' u, Sx2 p h H H' → SWAt K H' p h r (tellPS r s x).1 → TAt K H' u (tellPS r s x).2 → Q u H'
theorem TAt.what {K : PySem.W.Frag} {H : Hp} (o : Option Str) : TAt K H (whatV o) (match o with | none => .non | some t => .str t) := by cases o <;> rfl
abbrev N_Story_tell : List Str := ["self", "deed", "found"]
theorem sc_Story_tell : FnScope N_Story_tell ["self", "deed"] (defScope s_Story_tell) := ⟨rfl, rfl, rfl, by decide +kernel, rfl, by decide +kernel, by decide +kernel⟩
theorem body_tellS0 (T : Tx K mg) : BodyOk P w K mg base "Story.tell" s_Story_tell N_Story_tell (He.fAd K ("Story", some "tell")) 5 (spTellS0 K) := fun cdv A outer s0 H vs Q E hr h => by
    obtain ⟨p, h, r, s, B, a, x, rfl, ha, hx, L, ok, hB, k⟩ := h
    refine ⟨_, (pss_cons (ps_if (pt_cmpR op_eq (pe_ix ix_tup (pv 1) pe_int (fun _ _ => rfl)) pe_str (nomark _)) (pss_one (ps_never)) pss_nil)
      (pss_cons (ps_if (pt_cmpR op_eq (pe_ix ix_tup (pv 1) pe_int (fun _ _ => rfl)) pe_str (nomark _)) (pss_cons (ps_fld (pv 0) (C8.pe_c (cal_moved T) hr (by decide) (by rfl) (pa_cons (pe_fld (pv 0) rfl) (pa_cons pe_int (pa_cons (pe_ix ix_tup (pv 1) pe_int (fun _ _ => rfl)) pa_nil)))) rfl)
      (pss_one (ps_ret pe_bl))) pss_nil)
      (pss_cons (ps_if (pt_cmpR op_eq (pe_ix ix_tup (pv 1) pe_int (fun _ _ => rfl)) pe_str (nomark _)) (pss_one (ps_ret (C8.pe_mt (met_pegS T) hr (by decide) (pv 0) (pa_cons (pe_ix ix_tup (pv 1) pe_int (fun _ _ => rfl)) (pa_cons (pe_ix ix_tup (pv 1) pe_int (fun _ _ => rfl)) pa_nil))))) pss_nil)
      (pss_cons (ps_if (pt_cmpR op_eq (pe_ix ix_tup (pv 1) pe_int (fun _ _ => rfl)) pe_str (nomark _)) (pss_one (ps_ret (C8.pe_mt (met_hangS T) hr (by decide) (pv 0) (pa_cons (pe_ix ix_tup (pv 1) pe_int (fun _ _ => rfl)) (pa_cons (pe_ix ix_tup (pv 1) pe_int (fun _ _ => rfl)) pa_nil))))) pss_nil)
      (pss_cons (ps_if (pt_cmpR op_eq (pe_ix ix_tup (pv 1) pe_int (fun _ _ => rfl)) pe_str (nomark _)) (pss_one (ps_ret (C8.pe_mt (met_fetchS T) hr (by decide) (pv 0) (pa_cons (pe_ix ix_tup (pv 1) pe_int (fun _ _ => rfl)) (pa_cons (pe_ix ix_tup (pv 1) pe_int (fun _ _ => rfl)) pa_nil))))) pss_nil)
      (pss_cons (ps_if (pt_cmpR op_eq (pe_ix ix_tup (pv 1) pe_int (fun _ _ => rfl)) pe_str (nomark _)) (pss_one (ps_ret (C8.pe_mt (met_walkS T) hr (by decide) (pv 0) (pa_cons (pe_ix ix_tup (pv 1) pe_int (fun _ _ => rfl)) (pa_cons (pe_ix ix_tup (pv 1) pe_int (fun _ _ => rfl)) pa_nil))))) pss_nil)
      (pss_cons (ps_set (i := 2) sc_Story_tell.nd rfl (Or.inl rfl) (C8.pe_mt (met_thingS T) hr (by decide) (pv 0) (pa_cons (pe_ix ix_tup (pv 1) pe_int (fun _ _ => rfl)) pa_nil)))
      (pss_cons (ps_if (PW.pt (pw_and (pt_cmpR op_eq (pe_ix ix_tup (pv 1) pe_int (fun _ _ => rfl)) pe_str (nomark _)) (pw_and1 (pt_cmpR op_notN (pv 2) pe_non (nomark _))))) (pss_one (ps_expr (pe_dpop1 (pe_fld (pv 0) rfl) (pv 2) ⟨rfl, rfl, rfl, rfl⟩))) pss_nil)
      (pss_one (ps_ret (pv 2))))))))))), ?_⟩
    obtain ⟨⟨dx, st, hp, hst⟩, kvs, hh, R⟩ := id L
    have look : ∀ far : Bool, x = .take far ∨ x = .look far → (∀ {Q' : VK}, Q' (.str (wS far)) H → ∃ (q : Addr) (xs : List V) (j : Int) (u : V), V.ref a = .ref q ∧ V.int 1 = .int j ∧ SqT K H q xs ∧ atI xs j = some u ∧ Q' u H) := fun far e Q' q => by
      rcases e with rfl | rfl
      · exact ⟨a, _, _, _, rfl, rfl, SqT.of ha, rfl, q⟩
      · exact ⟨a, _, _, _, rfl, rfl, SqT.of ha, rfl, q⟩
    cases x with
    | pull m =>
      refine ⟨_, rfl, a, _, _, _, rfl, rfl, SqT.of ha, rfl, rfl, _, rfl, iteFd (by decide +kernel) ⟨_, rfl, a, _, _, _, rfl, rfl, SqT.of ha, rfl, rfl, _, rfl, iteTd (by decide +kernel) ?_⟩⟩
      refine ⟨_, rfl, p, _, dx, _, _, rfl, hp, T.c_Story, T.na_Story_stand, rfl, _, rfl, a, _, _, _, rfl, rfl, SqT.of ha, rfl, st, s.stand, 0, m, rfl, SqT.of hst, fun H1 c e1 hc hc1 => ?_⟩
      obtain ⟨⟨dx1, a1, hp1, ha1⟩, _⟩ := L.mono e1
      refine ⟨_, rfl, p, _, dx1, _, rfl, hp1, T.c_Story, T.na_Story_stand, by show 3 < 1000; decide, ?_⟩
      exact k _ (.bl true) (Same.sx2 e1).putP (L.setStand e1 hc1) rfl
    | peg far t =>
      refine ⟨_, rfl, a, _, _, _, rfl, rfl, SqT.of ha, rfl, rfl, _, rfl, iteFd (by decide +kernel) ⟨_, rfl, a, _, _, _, rfl, rfl, SqT.of ha, rfl, rfl, _, rfl, iteFd (by decide +kernel) ⟨_, rfl, a, _, _, _, rfl, rfl, SqT.of ha, rfl, rfl, _, rfl, iteTd (by decide +kernel) ?_⟩⟩⟩
      exact ⟨_, rfl, p, dx, _, rfl, hp, rfl, _, rfl, a, _, _, _, rfl, rfl, SqT.of ha, rfl, _, rfl, a, _, _, _, rfl, rfl, SqT.of ha, rfl, far, t, p, h, r, s, B, rfl, L, ok, hB, trivial, k⟩
    | hang far t =>
      refine ⟨_, rfl, a, _, _, _, rfl, rfl, SqT.of ha, rfl, rfl, _, rfl, iteFd (by decide +kernel) ⟨_, rfl, a, _, _, _, rfl, rfl, SqT.of ha, rfl, rfl, _, rfl, iteFd (by decide +kernel) ⟨_, rfl, a, _, _, _, rfl, rfl, SqT.of ha, rfl, rfl, _, rfl, iteFd (by decide +kernel) ⟨_, rfl, a, _, _, _, rfl, rfl, SqT.of ha, rfl, rfl, _, rfl, iteTd (by decide +kernel) ?_⟩⟩⟩⟩
      exact ⟨_, rfl, p, dx, _, rfl, hp, rfl, _, rfl, a, _, _, _, rfl, rfl, SqT.of ha, rfl, _, rfl, a, _, _, _, rfl, rfl, SqT.of ha, rfl, far, t, p, h, r, s, B, rfl, L, ok, hB, trivial, k⟩
    | fetch far t =>
      refine ⟨_, rfl, a, _, _, _, rfl, rfl, SqT.of ha, rfl, rfl, _, rfl, iteFd (by decide +kernel) ⟨_, rfl, a, _, _, _, rfl, rfl, SqT.of ha, rfl, rfl, _, rfl, iteFd (by decide +kernel) ⟨_, rfl, a, _, _, _, rfl, rfl, SqT.of ha, rfl, rfl, _, rfl, iteFd (by decide +kernel) ⟨_, rfl, a, _, _, _, rfl, rfl, SqT.of ha, rfl, rfl, _, rfl, iteFd (by decide +kernel) ⟨_, rfl, a, _, _, _, rfl, rfl, SqT.of ha, rfl, rfl, _, rfl, iteTd (by decide +kernel) ?_⟩⟩⟩⟩⟩
      exact ⟨_, rfl, p, dx, _, rfl, hp, rfl, _, rfl, a, _, _, _, rfl, rfl, SqT.of ha, rfl, _, rfl, a, _, _, _, rfl, rfl, SqT.of ha, rfl, far, t, p, h, r, s, B, rfl, L, ok, hB, trivial, k⟩
    | walk far t =>
      refine ⟨_, rfl, a, _, _, _, rfl, rfl, SqT.of ha, rfl, rfl, _, rfl, iteFd (by decide +kernel) ⟨_, rfl, a, _, _, _, rfl, rfl, SqT.of ha, rfl, rfl, _, rfl, iteFd (by decide +kernel) ⟨_, rfl, a, _, _, _, rfl, rfl, SqT.of ha, rfl, rfl, _, rfl, iteFd (by decide +kernel) ⟨_, rfl, a, _, _, _, rfl, rfl, SqT.of ha, rfl, rfl, _, rfl, iteFd (by decide +kernel) ⟨_, rfl, a, _, _, _, rfl, rfl, SqT.of ha, rfl, rfl, _, rfl, iteFd (by decide +kernel) ⟨_, rfl, a, _, _, _, rfl, rfl, SqT.of ha, rfl, rfl, _, rfl, iteTd (by decide +kernel) ?_⟩⟩⟩⟩⟩⟩
      exact ⟨_, rfl, p, dx, _, rfl, hp, rfl, _, rfl, a, _, _, _, rfl, rfl, SqT.of ha, rfl, _, rfl, a, _, _, _, rfl, rfl, SqT.of ha, rfl, far, t, p, h, r, s, B, rfl, L, ok, hB, ⟨hx.1, hx.2.1, hx.2.2⟩, k⟩
    | take far =>
      refine ⟨_, rfl, a, _, _, _, rfl, rfl, SqT.of ha, rfl, rfl, _, rfl, iteFd (by decide +kernel) ⟨_, rfl, a, _, _, _, rfl, rfl, SqT.of ha, rfl, rfl, _, rfl, iteFd (by decide +kernel) ⟨_, rfl, a, _, _, _, rfl, rfl, SqT.of ha, rfl, rfl, _, rfl, iteFd (by decide +kernel) ⟨_, rfl, a, _, _, _, rfl, rfl, SqT.of ha, rfl, rfl, _, rfl, iteFd (by decide +kernel) ⟨_, rfl, a, _, _, _, rfl, rfl, SqT.of ha, rfl, rfl, _, rfl, iteFd (by decide +kernel) ⟨_, rfl, a, _, _, _, rfl, rfl, SqT.of ha, rfl, rfl, _, rfl, iteFd (by decide +kernel) ?_⟩⟩⟩⟩⟩⟩
      refine ⟨_, rfl, p, dx, _, rfl, hp, rfl, _, rfl, a, _, _, _, rfl, rfl, SqT.of ha, rfl, p, h, r, s, far, rfl, L, fun H1 e1 => ?_⟩
      have e1 : Same H H1 := e1
      have L1 := L.mono e1
      obtain ⟨⟨dx1, a1, hp1, ha1⟩, kvs1, hh1, R1⟩ := id L1
      refine ⟨_, rfl, a, _, _, _, rfl, rfl, SqT.of (e1 _ _ ha), rfl, rfl, _, rfl, iteTd (by decide +kernel) ⟨_, rfl, rfl, _, rfl, ?_⟩⟩
      cases e : thingS s far with
      | none =>
        have k' := k H1 .non (Same.sx2 e1)
        simp only [tellPS, e] at k'
        exact iteF ⟨_, rfl, k' L1 rfl⟩
      | some t =>
        have hm : ∃ m, getK s.hung t = some m := by
          unfold thingS whoAt at e
          cases e2 : s.hung.find? fun p => decide (p.2 = spotS s far) with
          | none => rw [e2] at e; cases e
          | some q =>
            rw [e2] at e
            cases e
            have : (getK s.hung q.1).isSome = true := by
              unfold getK
              rw [Option.isSome_map, List.find?_isSome]
              exact ⟨q, List.mem_of_find?_eq_some e2, decide_eq_true rfl⟩
            exact Option.isSome_iff_exists.mp this
        rcases R1.val t with ⟨g1, _⟩ | ⟨q, b, g1, g2, _⟩
        · obtain ⟨m, hm⟩ := hm
          rw [g1] at hm
          cases hm
        · refine iteT ⟨_, rfl, p, _, dx1, _, _, rfl, hp1, T.c_Story, T.na_Story_hung, rfl, h, rfl, .inl ⟨_, .inl hh1⟩, _, rfl, kvs1, Sum.inr t, .ref b, hh1, rfl, g2, _, rfl, ?_⟩
          have k' := k (upd H1 h (.dK (dropK kvs1 (Sum.inr t)))) (.str t) ((Same.sx2 e1).putH)
          simp only [tellPS, e] at k'
          exact k' (L1.setH (R1.del t)) rfl
    | look far =>
      refine ⟨_, rfl, a, _, _, _, rfl, rfl, SqT.of ha, rfl, rfl, _, rfl, iteFd (by decide +kernel) ⟨_, rfl, a, _, _, _, rfl, rfl, SqT.of ha, rfl, rfl, _, rfl, iteFd (by decide +kernel) ⟨_, rfl, a, _, _, _, rfl, rfl, SqT.of ha, rfl, rfl, _, rfl, iteFd (by decide +kernel) ⟨_, rfl, a, _, _, _, rfl, rfl, SqT.of ha, rfl, rfl, _, rfl, iteFd (by decide +kernel) ⟨_, rfl, a, _, _, _, rfl, rfl, SqT.of ha, rfl, rfl, _, rfl, iteFd (by decide +kernel) ⟨_, rfl, a, _, _, _, rfl, rfl, SqT.of ha, rfl, rfl, _, rfl, iteFd (by decide +kernel) ?_⟩⟩⟩⟩⟩⟩
      refine ⟨_, rfl, p, dx, _, rfl, hp, rfl, _, rfl, a, _, _, _, rfl, rfl, SqT.of ha, rfl, p, h, r, s, far, rfl, L, fun H1 e1 => ?_⟩
      have e1 : Same H H1 := e1
      have L1 := L.mono e1
      refine ⟨_, rfl, a, _, _, _, rfl, rfl, SqT.of (e1 _ _ ha), rfl, rfl, _, rfl, iteFd (by decide +kernel) (iteF ⟨_, rfl, ?_⟩)⟩
      have k' := k H1 (whatV (thingS s far)) (Same.sx2 e1)
      cases e : thingS s far with
      | none =>
        simp only [tellPS, e] at k'
        exact k' L1 rfl
      | some t =>
        simp only [tellPS, e] at k'
        exact k' L1 rfl
end
end Rln
end
section
set_option Elab.async false
set_option linter.all false
set_option maxRecDepth 100000
set_option maxHeartbeats 4000000
namespace Rln
open PySem PySem.Spec PyProof.Rows L2
inductive TsAt (K : PySem.W.Frag) (H : Hp) : List V → List (TV Str) → Prop where
  | nil : TsAt K H [] []
  | cons {v : V} {t : TV Str} {vs ts} (h : TAt K H v t) (r : TsAt K H vs ts) : TsAt K H (v :: vs) (t :: ts)
theorem TsAt.mono {K : PySem.W.Frag} {H H' : Hp} {vs ts} (e : Same H H') (R : TsAt K H vs ts) : TsAt K H' vs ts := by
  induction R with
  | nil => exact .nil
  | cons h r ih => exact .cons (h.mono e) ih
theorem TsAt.keep {K : PySem.W.Frag} {H H' : Hp} {vs ts} (R : TsAt K H vs ts) (e : ∀ {v t}, TAt K H v t → TAt K H' v t) : TsAt K H' vs ts := by
  induction R with
  | nil => exact .nil
  | cons h r ih => exact .cons (e h) ih
theorem TsAt.snoc {K : PySem.W.Frag} {H : Hp} {vs ts v t} (R : TsAt K H vs ts) (h : TAt K H v t) : TsAt K H (vs ++ [v]) (ts ++ [t]) := by
  induction R with
  | nil => exact .cons h .nil
  | cons h0 r ih => exact .cons h0 ih
theorem TsAt.len {K : PySem.W.Frag} {H : Hp} {vs ts} (R : TsAt K H vs ts) : vs.length = ts.length := by
  induction R with
  | nil => rfl
  | cons h r ih => rw [List.length_cons, List.length_cons, ih]
theorem TsAt.get {K : PySem.W.Frag} {H : Hp} {vs ts} (R : TsAt K H vs ts) : ∀ {i : Nat} {t}, ts[i]? = some t → ∃ v, vs[i]? = some v ∧ TAt K H v t := by
  induction R with
  | nil => intro i q h; cases i <;> cases h
  | cons h r ih =>
    intro i q e
    cases i with
    | zero => cases e; exact ⟨_, rfl, h⟩
    | succ i => exact ih e
theorem TAt.sx2 {K : PySem.W.Frag} {H H' : Hp} {p h : Addr} {r : Int} {s : SW Str} {v : V} {t : TV Str} (e : Sx2 p h H H') (L : SWAt K H p h r s) (T : TAt K H v t) : TAt K H' v t := by
  obtain ⟨⟨dx, n, hp, _⟩, kvs, hh, _⟩ := L
  cases t with
  | form =>
    obtain ⟨f, fdx, r, a, b, q, rfl, h1, h2, h3⟩ := T
    refine ⟨f, fdx, r, a, b, q, rfl, e _ _ (fun z => ?_) (ne_of h1 hh (by intro z; cases z)) h1, e _ _ (ne_of h2 hp (by intro z; cases z)) (ne_of h2 hh (by intro z; cases z)) h2, h3⟩
    subst z
    have z := Option.some.inj (h1.symm.trans hp)
    injection z with _ _ z
    injection z with _ z
    cases z
  | _ => exact T
section
variable {P : Program} {w : World} {K : PySem.W.Frag} {mg : Str → Option Value} {base : Heap}
theorem met_tellS0 (T : Tx K mg) : Met P w K mg base 6 (cStory K) "tell" (spTellS0 K) [] := by
  refine metD T.f_Story_tell T.c_Story T.m_Story_tell sc_Story_tell (fun vs H Q E h => ?_) (fun _ _ _ _ _ _ us hl => match us, hl with | [_, _], _ => rfl) (body_tellS0 T)
  obtain ⟨p, h, d, s, B, a, x, rfl, _⟩ := h
  rfl
theorem met_tellS (T : Tx K mg) : Met P w K mg base 7 (cStory K) "tell" (spTellS K) [] := by
  refine metD T.f_Story_tell T.c_Story T.m_Story_tell sc_Story_tell (fun vs H Q E h => ?_) (fun _ _ _ _ _ _ us hl => match us, hl with | [_, _], _ => rfl) (fun cdv A outer s H vs Q E hr h => ?_)
  · obtain ⟨p, h, d, s, B, a, x, rfl, _⟩ := h
    rfl
  · obtain ⟨p, h, r, s, B, v, x, rfl, hx, ho, L, ok, hB, k⟩ := h
    cases x with
    | pl x =>
      obtain ⟨a, rfl, ha⟩ := hx
      exact body_tellS0 T cdv A outer _ H _ Q E (hr.mono (by decide)) ⟨p, h, r, s, B, a, x, rfl, ha, ho, L, ok, hB, k⟩
    | whn f wh x =>
      obtain ⟨a, b, rfl, ha, hb⟩ := hx
      refine ⟨_, (pss_cons (ps_if (pt_cmpR op_eq (pe_ix ix_tup (pv 1) pe_int (fun _ _ => rfl)) pe_str (nomark _)) (pss_one (ps_ret (pe_ifExp (pt_cmpR op_eq (C8.pe_mt (met_thingS T) hr (by decide) (pv 0) (pa_cons (pe_ix ix_tup (pv 1) pe_int (fun _ _ => rfl)) pa_nil)) (pe_ix ix_tup (pv 1) pe_int (fun _ _ => rfl)) (nomark _)) (C8.pe_mt (met_tellS0 T) hr (by decide) (pv 0) (pa_cons (pe_ix ix_tup (pv 1) pe_int (fun _ _ => rfl)) pa_nil)) pe_str))) pss_nil)
      (pss_cons (ps_if (pt_cmpR op_eq (pe_ix ix_tup (pv 1) pe_int (fun _ _ => rfl)) pe_str (nomark _)) (pss_cons (ps_fld (pv 0) (C8.pe_c (cal_moved T) hr (by decide) (by rfl) (pa_cons (pe_fld (pv 0) rfl) (pa_cons pe_int (pa_cons (pe_ix ix_tup (pv 1) pe_int (fun _ _ => rfl)) pa_nil)))) rfl)
      (pss_one (ps_ret pe_bl))) pss_nil)
      (pss_cons (ps_if (pt_cmpR op_eq (pe_ix ix_tup (pv 1) pe_int (fun _ _ => rfl)) pe_str (nomark _)) (pss_one (ps_ret (C8.pe_mt (met_pegS T) hr (by decide) (pv 0) (pa_cons (pe_ix ix_tup (pv 1) pe_int (fun _ _ => rfl)) (pa_cons (pe_ix ix_tup (pv 1) pe_int (fun _ _ => rfl)) pa_nil))))) pss_nil)
      (pss_cons (ps_if (pt_cmpR op_eq (pe_ix ix_tup (pv 1) pe_int (fun _ _ => rfl)) pe_str (nomark _)) (pss_one (ps_ret (C8.pe_mt (met_hangS T) hr (by decide) (pv 0) (pa_cons (pe_ix ix_tup (pv 1) pe_int (fun _ _ => rfl)) (pa_cons (pe_ix ix_tup (pv 1) pe_int (fun _ _ => rfl)) pa_nil))))) pss_nil)
      (pss_cons (ps_if (pt_cmpR op_eq (pe_ix ix_tup (pv 1) pe_int (fun _ _ => rfl)) pe_str (nomark _)) (pss_one (ps_ret (C8.pe_mt (met_fetchS T) hr (by decide) (pv 0) (pa_cons (pe_ix ix_tup (pv 1) pe_int (fun _ _ => rfl)) (pa_cons (pe_ix ix_tup (pv 1) pe_int (fun _ _ => rfl)) pa_nil))))) pss_nil)
      (pss_cons (ps_if (pt_cmpR op_eq (pe_ix ix_tup (pv 1) pe_int (fun _ _ => rfl)) pe_str (nomark _)) (pss_one (ps_ret (C8.pe_mt (met_walkS T) hr (by decide) (pv 0) (pa_cons (pe_ix ix_tup (pv 1) pe_int (fun _ _ => rfl)) (pa_cons (pe_ix ix_tup (pv 1) pe_int (fun _ _ => rfl)) pa_nil))))) pss_nil)
      (pss_cons (ps_set (i := 2) sc_Story_tell.nd rfl (Or.inl rfl) (C8.pe_mt (met_thingS T) hr (by decide) (pv 0) (pa_cons (pe_ix ix_tup (pv 1) pe_int (fun _ _ => rfl)) pa_nil)))
      (pss_cons (ps_if (PW.pt (pw_and (pt_cmpR op_eq (pe_ix ix_tup (pv 1) pe_int (fun _ _ => rfl)) pe_str (nomark _)) (pw_and1 (pt_cmpR op_notN (pv 2) pe_non (nomark _))))) (pss_one (ps_expr (pe_dpop1 (pe_fld (pv 0) rfl) (pv 2) ⟨rfl, rfl, rfl, rfl⟩))) pss_nil)
      (pss_one (ps_ret (pv 2))))))))))), ?_⟩
      obtain ⟨⟨dx, st, hp, hst⟩, _⟩ := id L
      refine ⟨_, rfl, a, _, _, _, rfl, rfl, SqT.of ha, rfl, rfl, _, rfl, iteTd (by decide +kernel) ?_⟩
      refine ⟨_, rfl, p, dx, _, rfl, hp, rfl, _, rfl, a, _, _, _, rfl, rfl, SqT.of ha, rfl, p, h, r, s, f, rfl, L, fun H1 e1 => ?_⟩
      have L1 := L.mono e1
      have e1 : Same H H1 := e1
      have ha1 := e1 _ _ ha
      have hb1 := e1 _ _ hb
      obtain ⟨⟨dx, st, hp, hst⟩, _⟩ := id L1
      refine ⟨_, rfl, a, _, _, _, rfl, rfl, SqT.of ha1, rfl, scal_what _ _, _, rfl, ?_⟩
      rw [eq_what]
      by_cases c : thingS s f = wh
      · refine iteTd (decide_eq_true c) ⟨_, rfl, p, dx, _, rfl, hp, rfl, _, rfl, a, _, _, _, rfl, rfl, SqT.of ha1, rfl, p, h, r, s, B, b, x, rfl, hb1, ho.2, L1, ok, hB, fun H2 u e2 L2 => ?_⟩
        have k' := k H2 u ((Same.sx2 e1).trans e2)
        simp only [tellS, c, if_true] at k'
        exact k' L2
      · have k' := k H1 (.str "no") (Same.sx2 e1)
        simp only [tellS, c, if_false] at k'
        exact iteFd (decide_eq_false c) (k' L1 rfl)
abbrev N_Story_init : List Str := ["self", "remainder"]
theorem sc_Story_init : FnScope N_Story_init ["self", "remainder"] (defScope s_Story_init) := ⟨rfl, rfl, rfl, by decide +kernel, rfl, by decide +kernel, by decide +kernel⟩
def spSWI (K : PySem.W.Frag) : Sp := fun vs H Q _ => ∃ x dx r, vs = [.ref x, .int r] ∧ H x = some (.ins (cStory K) dx []) ∧ ∀ H' h, Sx x H H' → H h = none → SWAt K H' x h r sw0 → Q .non H'
theorem mak_Story (T : Tx K mg) : Mak P w K mg base 1 "Story" (cStory K) (spSWI K) [] := by
  refine makD T.f_Story_init T.mk_Story T.g_Story sc_Story_init (fun vs H Q E h => ?_) (fun _ _ _ _ _ _ us hl => match us, hl with | [_, _], _ => rfl) (fun cdv A outer s H vs Q E hr h => ?_)
  · obtain ⟨x, dx, d, rfl, _⟩ := h
    rfl
  · obtain ⟨x, dx, r, rfl, hx, k⟩ := h
    refine ⟨_, (pss_cons (ps_fld (pv 0) (pv 1) rfl)
      (pss_cons (ps_fld (pv 0) (pe_tup (pa_cons pe_int (pa_cons pe_int pa_nil))) rfl)
      (pss_one (ps_fld (pv 0) pe_dnewK rfl)))), ?_⟩
    refine ⟨_, rfl, _, rfl, x, _, dx, _, rfl, hx, T.c_Story, T.na_Story_remainder, by show 0 < 1000; decide, ?_⟩
    have e1 : Sx x H (upd H x (.ins (cStory K) dx [("remainder", .int r)])) := fun b u n e => by
      rw [upd_ne n]
      exact e
    have hx1 : upd H x (.ins (cStory K) dx [("remainder", .int r)]) x = some (.ins (cStory K) dx [("remainder", .int r)]) := upd_same
    refine ⟨by decide, fun a ha => ?_⟩
    have ha : upd H x (.ins (cStory K) dx [("remainder", .int r)]) a = none := ha
    have nax : a ≠ x := Ne.symm (ne_of_none hx1 ha)
    refine ⟨_, rfl, x, _, dx, [("remainder", .int r)], rfl, ?_, T.c_Story, T.na_Story_stand, by show 1 < 1000; decide, ?_⟩
    · rw [upd_ne (Ne.symm nax)]
      exact hx1
    · intro h hh
      have nhx : h ≠ x := Ne.symm (ne_of_none upd_same hh)
      have hh1 := hh
      rw [upd_ne nhx] at hh1
      have nha : h ≠ a := Ne.symm (ne_of_none upd_same hh1)
      rw [upd_ne nha] at hh1
      have hh0 : H h = none := by
        have := hh1
        rw [show (upd H x (.ins (cStory K) dx (putF "remainder" (.int r) []))) h = H h from upd_ne nhx] at this
        exact this
      refine ⟨_, rfl, x, _, dx, [("remainder", .int r), ("stand", .ref a)], rfl, ?_, T.c_Story, T.na_Story_hung, by show 2 < 1000; decide, ?_⟩
      · rw [upd_ne (Ne.symm nhx), upd_same]
        rfl
      · refine k _ h (fun b u n e => ?_) hh0 ⟨⟨dx, a, upd_same, ?_⟩, [], ?_, .nil⟩
        · have eb := e1 b u n e
          rw [upd_ne n, upd_ne (ne_of_none e hh0), upd_ne n, upd_ne (ne_of_none eb ha)]
          exact eb
        · rw [upd_ne nax, upd_ne (Ne.symm nha), upd_ne nax, upd_same]
          rfl
        · rw [upd_ne nhx, upd_same]
abbrev N_story_of : List Str := ["deeds", "remainder", "story", "deed"]
theorem sc_story_of : FnScope N_story_of ["deeds", "remainder"] (defScope s_story_of) := ⟨rfl, rfl, rfl, by decide +kernel, rfl, by decide +kernel, by decide +kernel⟩
def spStory (K : PySem.W.Frag) : Sp := fun vs H Q _ => ∃ v ds r, vs = [v, .int r] ∧ DsAt K H v ds ∧ (∀ x ∈ ds, deedOk x) ∧ ds.length ≤ 20 ∧
  ∀ H' t p D h us, Same H H' → H t = none → H D = none → H' t = some (.tup [.ref p, .ref D]) → SWAt K H' p h r (workS r ds) → H' D = some (.lst us) → TsAt K H' us (toldS r ds) → Q (.ref t) H'
theorem cal_story_of (T : Tx K mg) : Cal P w K mg base 8 "story_of" (spStory K) [] := by
  refine calD T.f_story_of T.g_story_of sc_story_of (fun vs H Q E h => ?_) (fun _ _ _ _ _ _ us hl => match us, hl with | [_, _], _ => rfl) (fun cdv A outer s H vs Q E hr h => ?_)
  · obtain ⟨x, dx, d, rfl, _⟩ := h
    rfl
  · obtain ⟨v, ds, r, rfl, hD, ho, hl, k⟩ := h
    refine ⟨_, (pss_cons (ps_set (i := 2) sc_story_of.nd rfl (Or.inr rfl) (C8.pe_mk (mak_Story T) hr (by decide) (by rfl) (pa_cons (pv 1) pa_nil)))
      (pss_one (ps_ret (pe_tup (pa_cons (pv 2) (pa_cons (pe_lc (own := [("deed", 3)]) rfl sc_story_of.nd (pi_tup (pv 0)) (blkOk_by (N := N_story_of) (sc := defScope s_story_of) (own := [("deed", 3)]) (by decide +kernel)) (fun _ _ _ _ _ => (pg_name (i := 3) sc_story_of.nd rfl (Or.inl rfl))) (fun _ _ _ _ _ => pts_nil) (fun _ _ _ _ _ => (C8.pe_mt (met_tellS T) hr (by decide) (pv 2) (pa_cons (pv 3) pa_nil)))) pa_nil)))))), ?_⟩
    refine ⟨_, rfl, fun p dx hp hdx ne => ⟨p, dx, r, rfl, upd_same, fun H1 h s1 hh L1 => ⟨rfl, ?_⟩⟩⟩
    have hh0 : H h = none := by
      by_cases e1 : h = p
      · rw [e1]; exact hp
      · by_cases e2 : h = dx
        · rw [e2]; exact hdx
        · rw [upd_ne e1, upd_ne e2] at hh
          exact hh
    have e1 : Same H H1 := Sx.made s1 hp hdx
    have back : ∀ H2, Sx2 p h H1 H2 → Same H H2 := fun H2 e b u z => e b u (ne_of_none z hp) (ne_of_none z hh0) (e1 b u z)
    obtain ⟨a, us, rfl, h1, h2, h3⟩ := hD
    refine ⟨_, rfl, _, rfl, a, rfl, ⟨_, e1.sqt h1⟩, fun D hD => lc_it (walk_tup (xs := us)) (fun i H' => Sx2 p h H1 H' ∧ SWAt K H' p h r (runS r sw0 (ds.take i)).1 ∧ ∃ ws, H' D = some (.lst ws) ∧ TsAt K H' ws (runS r sw0 (ds.take i)).2) ?_ ?_ ?_ ?_⟩
    · exact ⟨Same.sx2 (Same.new hD), L1.mono (Same.new hD), [], upd_same, .nil⟩
    · rintro i H2 _ ⟨e2, L2, _⟩
      exact (back H2 e2).sqt h1
    · rintro i x H2 H3 hi ⟨e2, L2, ws, hl2, W⟩ ⟨eH, hx⟩
      have eH2 : H2 = H3 := eH.symm
      subst eH2
      have hi' : i < ds.length := by omega
      obtain ⟨u, hu, du⟩ := h3 i ds[i] (List.getElem?_eq_getElem hi')
      rw [hx] at hu
      cases hu
      obtain ⟨⟨dx2, a2, hp2, _⟩, kvs2, hh2, _⟩ := id L2
      have okr := SWOk.start.run (r := r) (ds.take i) fun y hy => ho y (List.mem_of_mem_take hy)
      refine ⟨rfl, lcYes (iteT ⟨_, rfl, p, dx2, _, rfl, hp2, rfl, _, rfl, p, h, r, _, _, x, ds[i], rfl, du.mono (back _ e2), ho _ (List.getElem_mem hi'), L2, okr, ?_, fun H4 v4 e4 L4 t4 => ?_⟩)⟩
      · rw [List.length_take]
        omega
      have nDp : D ≠ p := fun z => by
        obtain ⟨⟨_, _, q, _⟩, _⟩ := L1
        rw [← z, hD] at q
        cases q
      have nDh : D ≠ h := fun z => by
        obtain ⟨_, _, q, _⟩ := L1
        rw [← z, hD] at q
        cases q
      have W4 : TsAt K H4 ws (runS r sw0 (ds.take i)).2 := by
        exact W.keep fun h0 => h0.sx2 e4 L2
      have hD4 := e4 _ _ nDp nDh hl2
      have lw := W.len
      rw [runS_len, List.length_take] at lw
      have up : Same H4 (upd H4 D (.lst (ws ++ [v4]))) → True := fun _ => trivial
      have keepT : ∀ {v t}, TAt K H4 v t → TAt K (upd H4 D (.lst (ws ++ [v4]))) v t := fun {v t} T0 => by
        cases t with
        | form =>
          obtain ⟨f, fdx, r', a', b', q', rfl, g1, g2, g3⟩ := T0
          exact ⟨f, fdx, r', a', b', q', rfl, by rw [upd_ne (ne_of g1 hD4 (by intro z; cases z))]; exact g1, by rw [upd_ne (ne_of g2 hD4 (by intro z; cases z))]; exact g2, g3⟩
        | _ => exact T0
      refine ⟨_, hD4, by rw [sizeLine_eq]; omega, fun b u n m z => ?_, ?_, _, upd_same, ?_⟩
      · rw [upd_ne (ne_of_none z hD)]
        exact e4 b u n m (e2 b u n m z)
      · rw [List.take_succ_eq_append_getElem hi', runS_snoc]
        exact L4.sxD hD4 (fun b u n z => by rw [upd_ne n]; exact z)
      · rw [List.take_succ_eq_append_getElem hi', runS_snoc]
        refine TsAt.snoc ?_ (keepT t4)
        exact W4.keep keepT
    · rintro H2 ⟨e2, L2, ws, hl2, W⟩
      rw [h2, List.take_length] at L2 W
      refine ⟨by show 2 ≤ sizeLine; decide, fun t ht => ?_⟩
      have e3 : Same H2 (upd H2 t (.tup [.ref p, .ref D])) := Same.new ht
      have hD0 : H D = none := by
        cases q : H D with
        | none => rfl
        | some u => rw [e1 _ _ q] at hD; cases hD
      have ht0 : H t = none := by
        cases q : H t with
        | none => rfl
        | some u => rw [back _ e2 _ _ q] at ht; cases ht
      exact k _ t p D h ws ((back _ e2).trans e3) ht0 hD0 upd_same (L2.mono e3) (e3 _ _ hl2) (W.mono e3)
end
end Rln
end
section
set_option Elab.async false
set_option linter.all false
set_option maxRecDepth 100000
set_option maxHeartbeats 4000000
namespace Rln
open PySem PySem.Spec PyProof.Rows L2
theorem while_to {c : TT} {tb : TS} {D : Ends} {σ : L2.St} {H : Hp} (Pv : L2.St → Hp → Prop) (μ : L2.St → Hp → Nat) (h0 : Pv σ H)
    (hs : ∀ σ H, Pv σ H → c σ H fun b H1 => if b = true then ∃ N : L2.St → Hp → Prop, (∀ σ' H', N σ' H' → ∃ m', m' < μ σ H ∧ m' = μ σ' H' ∧ Pv σ' H') ∧ tb { D with nx := N, ct := N, bk := D.nx } σ H1 else D.nx σ H1) : tWhile c tb D σ H := by
  refine ⟨fun m σ H => m = μ σ H ∧ Pv σ H, ⟨_, rfl, h0⟩, ?_⟩
  rintro m σ H ⟨rfl, p⟩
  exact hs σ H p
/-! ### moduli -/
def D60 : List Int := [1, 2, 3, 4, 5, 6, 10, 12, 15, 20, 30, 60]
def lcI (i j : Int) : Int := i * j / (Int.gcd i j : Nat)
theorem lc_D60 : ∀ i ∈ D60, ∀ j ∈ D60, lcI i j ∈ D60 ∧ i ∣ lcI i j ∧ j ∣ lcI i j := by decide +kernel
theorem D60_bd : ∀ i ∈ D60, 1 ≤ i ∧ i ≤ 60 ∧ i ∣ 60 := by decide +kernel
def modStep (m : Int) (x : Deed Str) : Int := match x.inner with
  | .walk _ s => lcI m s.natAbs
  | _ => m
def modOf (ds : List (Deed Str)) : Int := ds.foldl modStep 1
theorem deedOk.inner {x : Deed Str} (h : deedOk x) : pdOk x.inner := by
  cases x with
  | pl p => exact h
  | whn f w p => exact h.2
theorem abs_D60 {s : Int} (h0 : s ≠ 0) (h1 : -6 ≤ s) (h2 : s ≤ 6) : (s.natAbs : Int) ∈ D60 := by
  have : s = -6 ∨ s = -5 ∨ s = -4 ∨ s = -3 ∨ s = -2 ∨ s = -1 ∨ s = 1 ∨ s = 2 ∨ s = 3 ∨ s = 4 ∨ s = 5 ∨ s = 6 := by omega
  rcases this with rfl | rfl | rfl | rfl | rfl | rfl | rfl | rfl | rfl | rfl | rfl | rfl <;> decide
theorem modStep_ok {m : Int} {x : Deed Str} (hm : m ∈ D60) (ho : deedOk x) : modStep m x ∈ D60 ∧ m ∣ modStep m x := by
  unfold modStep
  have := ho.inner
  cases e : x.inner with
  | walk f s =>
    rw [e] at this
    have := lc_D60 m hm _ (abs_D60 this.1 this.2.1 this.2.2)
    exact ⟨this.1, this.2.1⟩
  | _ => exact ⟨hm, Int.dvd_refl m⟩
theorem mod_run : ∀ (ds : List (Deed Str)) {m : Int}, m ∈ D60 → (∀ x ∈ ds, deedOk x) → ds.foldl modStep m ∈ D60 ∧ m ∣ ds.foldl modStep m ∧ ∀ x ∈ ds, ∀ f s, x.inner = .walk f s → (s.natAbs : Int) ∣ ds.foldl modStep m
  | [], m, hm, _ => ⟨hm, Int.dvd_refl m, fun x hx => nomatch hx⟩
  | x :: ds, m, hm, ho => by
    have h1 := modStep_ok hm (ho x (List.mem_cons_self ..))
    have h2 := mod_run ds h1.1 fun y hy => ho y (List.mem_cons_of_mem _ hy)
    rw [List.foldl_cons]
    refine ⟨h2.1, Int.dvd_trans h1.2 h2.2.1, fun y hy f s e => ?_⟩
    rcases List.mem_cons.mp hy with rfl | hy
    · have hp := (ho y (List.mem_cons_self ..)).inner
      rw [e] at hp
      have h3 := (lc_D60 m hm _ (abs_D60 hp.1 hp.2.1 hp.2.2)).2.2
      have h4 : modStep m y = lcI m s.natAbs := by unfold modStep; rw [e]
      exact Int.dvd_trans (h4 ▸ h3) h2.2.1
    · exact h2.2.2 y hy f s e
theorem modOf_D60 {ds : List (Deed Str)} (ho : ∀ x ∈ ds, deedOk x) : modOf ds ∈ D60 := (mod_run ds (by decide) ho).1
def compatV (a : TV Str) : TV Str → Prop
  | .form => ∃ i, a = .int i
  | t => valT a = valT t
/-- every place of the row is told so -/
def rowOk (ds : List (Deed Str)) (d : Int) : Prop := ∀ (i : Nat) a t, (toldL d ds)[i]? = some a → (toldS (d % modOf ds) ds)[i]? = some t → compatV a t
/-- two lists, place by place -/
inductive L2R {α : Type} (R : V → α → Prop) : List V → List α → Prop where
  | nil : L2R R [] []
  | cons {v : V} {x : α} {vs xs} (h : R v x) (r : L2R R vs xs) : L2R R (v :: vs) (x :: xs)
section
variable {α : Type} {R R' : V → α → Prop}
theorem L2R.keep {vs xs} (r : L2R R vs xs) (e : ∀ v x, R v x → R' v x) : L2R R' vs xs := by
  induction r with
  | nil => exact .nil
  | cons h r ih => exact .cons (e _ _ h) ih
theorem L2R.snoc {vs xs v x} (r : L2R R vs xs) (h : R v x) : L2R R (vs ++ [v]) (xs ++ [x]) := by
  induction r with
  | nil => exact .cons h .nil
  | cons h0 r ih => exact .cons h0 ih
theorem L2R.len {vs xs} (r : L2R R vs xs) : vs.length = xs.length := by
  induction r with
  | nil => rfl
  | cons h r ih => rw [List.length_cons, List.length_cons, ih]
theorem L2R.get {vs xs} (r : L2R R vs xs) : ∀ {i : Nat} {x}, xs[i]? = some x → ∃ v, vs[i]? = some v ∧ R v x := by
  induction r with
  | nil => intro i q h; cases i <;> cases h
  | cons h r ih =>
    intro i q e
    cases i with
    | zero => cases e; exact ⟨_, rfl, h⟩
    | succ i => exact ih e
theorem L2R.getV {vs xs} (r : L2R R vs xs) : ∀ {i : Nat} {v}, vs[i]? = some v → ∃ x, xs[i]? = some x ∧ R v x := by
  induction r with
  | nil => intro i q h; cases i <;> cases h
  | cons h r ih =>
    intro i q e
    cases i with
    | zero => cases e; exact ⟨_, rfl, h⟩
    | succ i => exact ih e
end
/-- the rows of the stories -/
def RowsAt (K : PySem.W.Frag) (H : Hp) (v : V) (ds : List (Deed Str)) : Prop := ∃ D rs, v = .ref D ∧ H D = some (.lst rs) ∧ (rs.length : Int) = modOf ds ∧
  ∀ i : Nat, (i : Int) < modOf ds → ∃ E us, rs[i]? = some (.ref E) ∧ H E = some (.lst us) ∧ TsAt K H us (toldS i ds)
theorem RowsAt.mono {K : PySem.W.Frag} {H H' : Hp} {v : V} {ds : List (Deed Str)} (e : Same H H') (R : RowsAt K H v ds) : RowsAt K H' v ds := by
  obtain ⟨D, rs, rfl, h1, h2, h3⟩ := R
  refine ⟨D, rs, rfl, e _ _ h1, h2, fun i hi => ?_⟩
  obtain ⟨E, us, g1, g2, g3⟩ := h3 i hi
  exact ⟨E, us, g1, e _ _ g2, g3.mono e⟩
theorem told_flat {a : TV Str} : flat4 (valT a) = true := by cases a <;> rfl
section
variable {P : Program} {w : World} {K : PySem.W.Frag} {mg : Str → Option Value} {base : Heap}
theorem dec_str {a b : Str} (h : a ≠ b) : decide (V.str a = V.str b) = false := decide_eq_false fun z => h (V.str.inj z)
theorem w_when : ∀ q : PD Str, decide (V.str (pdW q) = V.str "when") = false
  | .peg .. => dec_str (a := "peg") (by decide +kernel)
  | .hang .. => dec_str (a := "hang") (by decide +kernel)
  | .take .. => dec_str (a := "take") (by decide +kernel)
  | .look .. => dec_str (a := "look") (by decide +kernel)
  | .fetch .. => dec_str (a := "fetch") (by decide +kernel)
  | .pull .. => dec_str (a := "pull") (by decide +kernel)
  | .walk .. => dec_str (a := "walk") (by decide +kernel)
theorem w_walk : ∀ q : PD Str, (∀ f s, q ≠ .walk f s) → decide (V.str (pdW q) = V.str "walk") = false
  | .peg .., _ => dec_str (a := "peg") (by decide +kernel)
  | .hang .., _ => dec_str (a := "hang") (by decide +kernel)
  | .take .., _ => dec_str (a := "take") (by decide +kernel)
  | .look .., _ => dec_str (a := "look") (by decide +kernel)
  | .fetch .., _ => dec_str (a := "fetch") (by decide +kernel)
  | .pull .., _ => dec_str (a := "pull") (by decide +kernel)
  | .walk f s, h => absurd rfl (h f s)
theorem w_pull : ∀ q : PD Str, (∀ n, q ≠ .pull n) → decide (V.str (pdW q) = V.str "pull") = false
  | .peg .., _ => dec_str (a := "peg") (by decide +kernel)
  | .hang .., _ => dec_str (a := "hang") (by decide +kernel)
  | .take .., _ => dec_str (a := "take") (by decide +kernel)
  | .look .., _ => dec_str (a := "look") (by decide +kernel)
  | .fetch .., _ => dec_str (a := "fetch") (by decide +kernel)
  | .walk .., _ => dec_str (a := "walk") (by decide +kernel)
  | .pull n, h => absurd rfl (h n)
abbrev N_inner : List Str := ["deed"]
theorem sc_inner : FnScope N_inner ["deed"] (defScope s_inner) := ⟨rfl, rfl, rfl, by decide +kernel, rfl, by decide +kernel, by decide +kernel⟩
def spInner : Sp := fun vs H Q _ => ∃ v x, vs = [v] ∧ DAt H v x ∧ ∀ a, H a = some (.tup (pdV x.inner)) → Q (.ref a) H
theorem cal_inner (T : Tx K mg) : Cal P w K mg base 1 "inner" spInner [] := by
  refine calD T.f_inner T.g_inner sc_inner (fun vs H Q E h => ?_) (fun _ _ _ _ _ _ us hl => match us, hl with | [_], _ => rfl) (fun cdv A outer s H vs Q E hr h => ?_)
  · obtain ⟨v, x, rfl, _⟩ := h
    rfl
  · obtain ⟨v, x, rfl, hx, k⟩ := h
    refine ⟨_, (pss_one (ps_ret (pe_ifExp (pt_cmpR op_eq (pe_ix ix_tup (pv 0) pe_int (fun _ _ => rfl)) pe_str (nomark _)) (pe_ix ix_tup (pv 0) pe_int (fun _ _ => rfl)) (pv 0)))), ?_⟩
    cases x with
    | pl p =>
      obtain ⟨a, rfl, ha⟩ := hx
      have w0 : atI (pdV p) 0 = some (.str (pdW p)) := by cases p <;> rfl
      refine ⟨_, rfl, a, _, _, _, rfl, rfl, SqT.of ha, w0, rfl, _, rfl, iteFd (w_when p) ⟨_, rfl, k a ha⟩⟩
    | whn f wh p =>
      obtain ⟨a, b, rfl, ha, hb⟩ := hx
      exact ⟨_, rfl, a, _, _, _, rfl, rfl, SqT.of ha, rfl, rfl, _, rfl, iteTd (by decide +kernel) ⟨_, rfl, a, _, _, _, rfl, rfl, SqT.of ha, rfl, k b hb⟩⟩
abbrev N_modulus_of : List Str := ["deeds", "found", "deed", "one"]
theorem sc_modulus_of : FnScope N_modulus_of ["deeds"] (defScope s_modulus_of) := ⟨rfl, rfl, rfl, by decide +kernel, rfl, by decide +kernel, by decide +kernel⟩
def spMod (K : PySem.W.Frag) : Sp := fun vs H Q _ => ∃ v ds, vs = [v] ∧ DsAt K H v ds ∧ (∀ x ∈ ds, deedOk x) ∧ ds.length ≤ 20 ∧ ∀ H', Same H H' → Q (.int (modOf ds)) H'
/-- the plain deed within -/
def InR (H : Hp) : V → Deed Str → Prop := fun v x => ∃ a, v = .ref a ∧ H a = some (.tup (pdV x.inner))
theorem keepD {H : Hp} {D : Addr} {ws ws' xs : List V} {b : Addr} (hD : H D = some (.lst ws)) (h : H b = some (.tup xs)) : upd H D (.lst ws') b = some (.tup xs) := by
  rw [upd_ne (ne_of h hD (by intro z; cases z))]
  exact h
theorem cal_modulus_of (T : Tx K mg) : Cal P w K mg base 3 "modulus_of" (spMod K) [] := by
  refine calD T.f_modulus_of T.g_modulus_of sc_modulus_of (fun vs H Q E h => ?_) (fun _ _ _ _ _ _ us hl => match us, hl with | [_], _ => rfl) (fun cdv A outer s H vs Q E hr h => ?_)
  · obtain ⟨v, x, rfl, _⟩ := h
    rfl
  · obtain ⟨v, ds, rfl, hD, ho, hl, k⟩ := h
    refine ⟨_, (pss_cons (ps_set (i := 1) sc_modulus_of.nd rfl (Or.inl rfl) pe_int)
      (pss_cons (ps_for PassesOwn.never rfl (pi_list (pe_lc (own := [("one", 3)]) rfl sc_modulus_of.nd (pi_tup (pv 0)) (blkOk_by (N := N_modulus_of) (sc := defScope s_modulus_of) (own := [("one", 3)]) (by decide +kernel)) (fun _ _ _ _ _ => (pg_name (i := 3) sc_modulus_of.nd rfl (Or.inl rfl))) (fun _ _ _ _ _ => pts_nil) (fun _ _ _ _ _ => (C8.pe_c (cal_inner T) hr (by decide) (by rfl) (pa_cons (pv 3) pa_nil))))) (pg_name (i := 2) sc_modulus_of.nd rfl (Or.inl rfl)) (pss_one (ps_if (pt_cmpR op_eq (pe_ix ix_tup (pv 2) pe_int (fun _ _ => rfl)) pe_str (nomark _)) (pss_one (ps_set (i := 1) sc_modulus_of.nd rfl (Or.inl rfl) (C8.pe_c (cal_common_multiple T) hr (by decide) (by rfl) (pa_cons (pv 1) (pa_cons (pe_callB call_abs (by rfl) T.n_abs (by decide +kernel) (pa_cons (pe_ix ix_tup (pv 2) pe_int (fun _ _ => rfl)) pa_nil)) pa_nil))))) pss_nil)))
      (pss_one (ps_ret (pv 1))))), ?_⟩
    obtain ⟨a, us, rfl, h1, h2, h3⟩ := hD
    refine ⟨_, rfl, a, rfl, ⟨_, h1⟩, fun D hD => lc_it (walk_tup (xs := us)) (fun i H' => Same H H' ∧ ∃ ws, H' D = some (.lst ws) ∧ L2R (InR H') ws (ds.take i)) ?_ ?_ ?_ ?_⟩
    · exact ⟨Same.new hD, [], upd_same, .nil⟩
    · rintro i H2 _ ⟨e2, _⟩
      exact e2.sqt h1
    · rintro i x H2 H3 hi ⟨e2, ws, hl2, W⟩ ⟨eH, hx⟩
      have eH2 : H2 = H3 := eH.symm
      subst eH2
      have hi' : i < ds.length := by omega
      obtain ⟨u, hu, du⟩ := h3 i ds[i] (List.getElem?_eq_getElem hi')
      rw [hx] at hu
      cases hu
      refine ⟨rfl, lcYes (iteT ⟨_, rfl, x, ds[i], rfl, du.mono e2, fun b hb => ?_⟩)⟩
      have lw := W.len
      rw [List.length_take] at lw
      refine ⟨_, hl2, by rw [sizeLine_eq]; omega, e2.put hD, _, upd_same, ?_⟩
      rw [List.take_succ_eq_append_getElem hi']
      exact (W.keep fun v y hy => by
        obtain ⟨c, rfl, hc⟩ := hy
        exact ⟨c, rfl, keepD hl2 hc⟩).snoc ⟨b, rfl, keepD hl2 hb⟩
    · rintro H1 ⟨e1, ws, hl1, W⟩
      rw [h2, List.take_length] at W
      have lw := W.len
      refine ⟨D, rfl, ⟨_, SqL.of hl1⟩, for_it (walk_list (xs := ws)) (fun i σ' H' => H' = H1 ∧ ∃ x, σ' = [some (.ref a), some (.int ((ds.take i).foldl modStep 1)), x, none]) ?_ ?_ ?_ ?_⟩
      · exact ⟨rfl, none, rfl⟩
      · rintro i σ' H2 _ ⟨rfl, _⟩
        exact SqL.of hl1
      · rintro i x σ' H2 H3 hi ⟨e2, x', rfl⟩ ⟨eH, hx⟩
        have eH2 : H1 = H3 := (eH.trans e2).symm
        subst eH2
        clear e2 eH
        have hi' : i < ds.length := by omega
        obtain ⟨_, hu, c, rfl, hc⟩ := W.get (List.getElem?_eq_getElem hi')
        rw [hx] at hu
        cases hu
        have hpd := (ho _ (List.getElem_mem hi')).inner
        have hm := (mod_run (ds.take i) (m := 1) (by decide) fun y hy => ho y (List.mem_of_mem_take hy)).1
        have hb := D60_bd _ hm
        have w0 : atI (pdV ds[i].inner) 0 = some (.str (pdW ds[i].inner)) := by cases ds[i].inner <;> rfl
        refine ⟨_, rfl, c, _, _, _, rfl, rfl, SqT.of hc, w0, rfl, _, rfl, ?_⟩
        rw [List.take_succ_eq_append_getElem hi', List.foldl_append]
        cases e : ds[i].inner with
        | walk f st =>
          rw [e] at hpd hc
          have hab := D60_bd _ (abs_D60 hpd.1 hpd.2.1 hpd.2.2)
          have ab : (if st < 0 then -st else st) = (st.natAbs : Int) := by split <;> omega
          refine iteTd (by show decide (V.str (pdW (PD.walk f st)) = V.str "walk") = true; exact decide_eq_true rfl) ⟨_, rfl, _, rfl, c, _, _, _, rfl, rfl, SqT.of hc, rfl, st, rfl, ?_⟩
          rw [ab]
          refine ⟨_, _, rfl, by omega, by omega, by omega, by omega, rfl, some (.ref c), ?_⟩
          have : modStep ((ds.take i).foldl modStep 1) ds[i] = lcI ((ds.take i).foldl modStep 1) st.natAbs := by unfold modStep; rw [e]
          rw [List.foldl_cons, this]
          rfl
        | _ =>
          refine iteFd (w_walk _ fun _ _ z => by cases z) ⟨rfl, some (.ref c), ?_⟩
          have : modStep ((ds.take i).foldl modStep 1) ds[i] = (ds.take i).foldl modStep 1 := by unfold modStep; rw [e]
          rw [List.foldl_cons, this]
          rfl
      · rintro σ' H2 ⟨rfl, x', rfl⟩
        rw [lw, List.take_length]
        exact ⟨_, rfl, k _ e1⟩
abbrev N_bound_of : List Str := ["deeds", "reach", "hung", "deed", "one"]
theorem sc_bound_of : FnScope N_bound_of ["deeds"] (defScope s_bound_of) := ⟨rfl, rfl, rfl, by decide +kernel, rfl, by decide +kernel, by decide +kernel⟩
def spBound (K : PySem.W.Frag) : Sp := fun vs H Q _ => ∃ v ds, vs = [v] ∧ DsAt K H v ds ∧ (∀ x ∈ ds, deedOk x) ∧ ds.length ≤ 20 ∧ ∀ H', Same H H' → Q (.int (boundOf ds)) H'
theorem reach_bd : ∀ (ds : List (Deed Str)) (rh : Int × Int), 0 ≤ rh.2 → 0 ≤ (ds.foldl (fun rh x => reachStep rh x.inner) rh).2 ∧ (ds.foldl (fun rh x => reachStep rh x.inner) rh).2 ≤ rh.2 + ds.length
  | [], rh, h => ⟨h, by show rh.2 ≤ rh.2 + ((0 : Nat) : Int); omega⟩
  | x :: ds, rh, h => by
    rw [List.foldl_cons, List.length_cons]
    have h1 : 0 ≤ (reachStep rh x.inner).2 ∧ (reachStep rh x.inner).2 ≤ rh.2 + 1 := by
      unfold reachStep
      split <;> constructor <;> (try dsimp only) <;> omega
    have := reach_bd ds (reachStep rh x.inner) h1.1
    omega
theorem cal_bound_of (T : Tx K mg) : Cal P w K mg base 2 "bound_of" (spBound K) [] := by
  refine calD T.f_bound_of T.g_bound_of sc_bound_of (fun vs H Q E h => ?_) (fun _ _ _ _ _ _ us hl => match us, hl with | [_], _ => rfl) (fun cdv A outer s H vs Q E hr h => ?_)
  · obtain ⟨v, x, rfl, _⟩ := h
    rfl
  · obtain ⟨v, ds, rfl, hD, ho, hl, k⟩ := h
    refine ⟨_, (pss_cons (ps_asg (pe_tup (pa_cons pe_int (pa_cons pe_int pa_nil))) (pg_tup rfl (pgs_cons (pg_name (i := 1) sc_bound_of.nd rfl (Or.inl rfl)) (pgs_cons (pg_name (i := 2) sc_bound_of.nd rfl (Or.inl rfl)) pgs_nil))))
      (pss_cons (ps_for PassesOwn.never rfl (pi_list (pe_lc (own := [("one", 4)]) rfl sc_bound_of.nd (pi_tup (pv 0)) (blkOk_by (N := N_bound_of) (sc := defScope s_bound_of) (own := [("one", 4)]) (by decide +kernel)) (fun _ _ _ _ _ => (pg_name (i := 4) sc_bound_of.nd rfl (Or.inl rfl))) (fun _ _ _ _ _ => pts_nil) (fun _ _ _ _ _ => (C8.pe_c (cal_inner T) hr (by decide) (by rfl) (pa_cons (pv 4) pa_nil))))) (pg_name (i := 3) sc_bound_of.nd rfl (Or.inl rfl)) (pss_one (ps_if (pt_cmpR op_eq (pe_ix ix_tup (pv 3) pe_int (fun _ _ => rfl)) pe_str (nomark _)) (pss_one (ps_aug (i := 1) sc_bound_of.nd rfl (Or.inl rfl) (pe_callB call_abs (by rfl) T.n_abs (by decide +kernel) (pa_cons (pe_ix ix_tup (pv 3) pe_int (fun _ _ => rfl)) pa_nil)) ip_add)) (pss_one (ps_if (pt_cmpR op_in_seq (pe_ix ix_tup (pv 3) pe_int (fun _ _ => rfl)) (pe_tup (pa_cons pe_str (pa_cons pe_str pa_nil))) (by rfl)) (pss_cons (ps_aug (i := 1) sc_bound_of.nd rfl (Or.inl rfl) (pe_op op_mul (pv 2) (pe_callTy call_int1 (by rfl) T.n_int boot_int (pa_cons (pe_cmpR op_eq (pe_ix ix_tup (pv 3) pe_int (fun _ _ => rfl)) pe_str (nomark _)) pa_nil))) ip_add)
      (pss_one (ps_aug (i := 2) sc_bound_of.nd rfl (Or.inl rfl) pe_int ip_add))) pss_nil)))))
      (pss_one (ps_ret (pe_op op_add (pe_op op_mul pe_int (pv 1)) pe_int))))), ?_⟩
    refine ⟨by decide, fun pz hpz => ⟨pz, _, rfl, SqT.of upd_same, rfl, _, _, rfl, _, _, rfl, rfl, ?_⟩⟩
    have e0 : Same H (upd H pz (.tup [.int 0, .int 0])) := Same.new hpz
    replace hD := hD.mono e0
    replace k : ∀ H', Same (upd H pz (.tup [.int 0, .int 0])) H' → Q (.int (boundOf ds)) H' := fun H' e => k H' (e0.trans e)
    clear e0
    generalize upd H pz (.tup [.int 0, .int 0]) = H0 at hD k
    obtain ⟨a, us, rfl, h1, h2, h3⟩ := hD
    refine ⟨_, rfl, a, rfl, ⟨_, h1⟩, fun D hD => lc_it (walk_tup (xs := us)) (fun i H' => Same H0 H' ∧ ∃ ws, H' D = some (.lst ws) ∧ L2R (InR H') ws (ds.take i)) ?_ ?_ ?_ ?_⟩
    · exact ⟨Same.new hD, [], upd_same, .nil⟩
    · rintro i H2 _ ⟨e2, _⟩
      exact e2.sqt h1
    · rintro i x H2 H3 hi ⟨e2, ws, hl2, W⟩ ⟨eH, hx⟩
      have eH2 : H2 = H3 := eH.symm
      subst eH2
      have hi' : i < ds.length := by omega
      obtain ⟨u, hu, du⟩ := h3 i ds[i] (List.getElem?_eq_getElem hi')
      rw [hx] at hu
      cases hu
      refine ⟨rfl, lcYes (iteT ⟨_, rfl, x, ds[i], rfl, du.mono e2, fun b hb => ?_⟩)⟩
      have lw := W.len
      rw [List.length_take] at lw
      refine ⟨_, hl2, by rw [sizeLine_eq]; omega, e2.put hD, _, upd_same, ?_⟩
      rw [List.take_succ_eq_append_getElem hi']
      exact (W.keep fun v y hy => by
        obtain ⟨c, rfl, hc⟩ := hy
        exact ⟨c, rfl, keepD hl2 hc⟩).snoc ⟨b, rfl, keepD hl2 hb⟩
    · rintro H1 ⟨e1, ws, hl1, W⟩
      rw [h2, List.take_length] at W
      have lw := W.len
      refine ⟨D, rfl, ⟨_, SqL.of hl1⟩, for_it (walk_list (xs := ws)) (fun i σ' H' => Same H1 H' ∧ ∃ x, σ' = [some (.ref a), some (.int ((ds.take i).foldl (fun rh x => reachStep rh x.inner) ((0 : Int), (0 : Int))).1), some (.int ((ds.take i).foldl (fun rh x => reachStep rh x.inner) ((0 : Int), (0 : Int))).2), x, none]) ?_ ?_ ?_ ?_⟩
      · exact ⟨fun _ _ e => e, none, rfl⟩
      · rintro i σ' H2 _ ⟨e2, _⟩
        exact SqL.of (e2 _ _ hl1)
      · rintro i x σ' H2 H3 hi ⟨e2, x', rfl⟩ ⟨eH, hx⟩
        have eH2 : H2 = H3 := eH.symm
        subst eH2
        clear eH
        have hi' : i < ds.length := by omega
        obtain ⟨_, hu, c, rfl, hc1⟩ := W.get (List.getElem?_eq_getElem hi')
        rw [hx] at hu
        cases hu
        have hc := e2 _ _ hc1
        have hb := reach_bd (ds.take i) (0, 0) (by decide)
        rw [List.length_take] at hb
        have hb1 : 0 ≤ ((ds.take i).foldl (fun rh x => reachStep rh x.inner) ((0 : Int), (0 : Int))).2 := hb.1
        have hb2 : ((ds.take i).foldl (fun rh x => reachStep rh x.inner) ((0 : Int), (0 : Int))).2 ≤ 20 := by have := hb.2; dsimp only at this; omega
        have w0 : atI (pdV ds[i].inner) 0 = some (.str (pdW ds[i].inner)) := by cases ds[i].inner <;> rfl
        refine ⟨_, rfl, c, _, _, _, rfl, rfl, SqT.of hc, w0, rfl, _, rfl, ?_⟩
        rw [List.take_succ_eq_append_getElem hi', List.foldl_append, List.foldl_cons, List.foldl_nil]
        generalize (ds.take i).foldl (fun rh x => reachStep rh x.inner) ((0 : Int), (0 : Int)) = rh at hb1 hb2
        cases e : ds[i].inner with
        | pull n =>
          rw [e] at hc
          have ab : (if n < 0 then -n else n) = (n.natAbs : Int) := by split <;> omega
          refine iteTd (by show decide (V.str (pdW (PD.pull n)) = V.str "pull") = true; exact decide_eq_true rfl) ⟨_, rfl, _, rfl, c, _, _, _, rfl, rfl, SqT.of hc, rfl, _, rfl, _, _, rfl, rfl, e2, some (.ref c), ?_⟩
          rw [ab]
          rfl
        | peg f t =>
          rw [e] at hc
          refine iteFd (w_pull _ fun _ z => by cases z) ⟨_, rfl, c, _, _, _, rfl, rfl, SqT.of hc, rfl, by decide, fun q2 hq2 => ⟨_, _, rfl, .inr (SqT.of upd_same), rfl, by decide, _, rfl, ?_⟩⟩
          have e3 : Same H2 (upd H2 q2 (.tup [.str "peg", .str "hang"])) := Same.new hq2
          have hc3 := e3 _ _ hc
          have e4 := e2.trans e3
          generalize upd H2 q2 (.tup [.str "peg", .str "hang"]) = H4 at e3 hc3 e4
          refine iteTd (by decide +kernel) ⟨_, rfl, _, rfl, _, rfl, c, _, _, _, rfl, rfl, SqT.of hc3, rfl, rfl, .inr ⟨_, rfl, _, _, rfl, rfl, .inl ⟨by omega, by omega⟩, _, _, rfl, rfl, ?_⟩⟩
          refine ⟨_, rfl, _, _, rfl, rfl, e4, some (.ref c), ?_⟩
          rw [show (if decide (V.str "peg" = V.str "hang") = true then (1 : Int) else 0) = 0 from by decide +kernel, Int.mul_zero]
          dsimp only
          rw [Int.add_zero]
          rfl
        | hang f t =>
          rw [e] at hc
          refine iteFd (w_pull _ fun _ z => by cases z) ⟨_, rfl, c, _, _, _, rfl, rfl, SqT.of hc, rfl, by decide, fun q2 hq2 => ⟨_, _, rfl, .inr (SqT.of upd_same), rfl, by decide, _, rfl, ?_⟩⟩
          have e3 : Same H2 (upd H2 q2 (.tup [.str "peg", .str "hang"])) := Same.new hq2
          have hc3 := e3 _ _ hc
          have e4 := e2.trans e3
          generalize upd H2 q2 (.tup [.str "peg", .str "hang"]) = H4 at e3 hc3 e4
          refine iteTd (by decide +kernel) ⟨_, rfl, _, rfl, _, rfl, c, _, _, _, rfl, rfl, SqT.of hc3, rfl, rfl, .inr ⟨_, rfl, _, _, rfl, rfl, .inl ⟨by omega, by omega⟩, _, _, rfl, rfl, ?_⟩⟩
          refine ⟨_, rfl, _, _, rfl, rfl, e4, some (.ref c), ?_⟩
          rw [show (if decide (V.str "hang" = V.str "hang") = true then (1 : Int) else 0) = 1 from by decide +kernel, Int.mul_one]
          rfl
        | take f =>
          rw [e] at hc
          refine iteFd (w_pull _ fun _ z => by cases z) ⟨_, rfl, c, _, _, _, rfl, rfl, SqT.of hc, rfl, by decide, fun q2 hq2 => ⟨_, _, rfl, .inr (SqT.of upd_same), rfl, by decide, _, rfl, ?_⟩⟩
          have e3 : Same H2 (upd H2 q2 (.tup [.str "peg", .str "hang"])) := Same.new hq2
          have hc3 := e3 _ _ hc
          have e4 := e2.trans e3
          generalize upd H2 q2 (.tup [.str "peg", .str "hang"]) = H4 at e3 hc3 e4
          exact iteFd (by decide +kernel) ⟨e4, some (.ref c), rfl⟩
        | look f =>
          rw [e] at hc
          refine iteFd (w_pull _ fun _ z => by cases z) ⟨_, rfl, c, _, _, _, rfl, rfl, SqT.of hc, rfl, by decide, fun q2 hq2 => ⟨_, _, rfl, .inr (SqT.of upd_same), rfl, by decide, _, rfl, ?_⟩⟩
          have e3 : Same H2 (upd H2 q2 (.tup [.str "peg", .str "hang"])) := Same.new hq2
          have hc3 := e3 _ _ hc
          have e4 := e2.trans e3
          generalize upd H2 q2 (.tup [.str "peg", .str "hang"]) = H4 at e3 hc3 e4
          exact iteFd (by decide +kernel) ⟨e4, some (.ref c), rfl⟩
        | fetch f t =>
          rw [e] at hc
          refine iteFd (w_pull _ fun _ z => by cases z) ⟨_, rfl, c, _, _, _, rfl, rfl, SqT.of hc, rfl, by decide, fun q2 hq2 => ⟨_, _, rfl, .inr (SqT.of upd_same), rfl, by decide, _, rfl, ?_⟩⟩
          have e3 : Same H2 (upd H2 q2 (.tup [.str "peg", .str "hang"])) := Same.new hq2
          have hc3 := e3 _ _ hc
          have e4 := e2.trans e3
          generalize upd H2 q2 (.tup [.str "peg", .str "hang"]) = H4 at e3 hc3 e4
          exact iteFd (by decide +kernel) ⟨e4, some (.ref c), rfl⟩
        | walk f t =>
          rw [e] at hc
          refine iteFd (w_pull _ fun _ z => by cases z) ⟨_, rfl, c, _, _, _, rfl, rfl, SqT.of hc, rfl, by decide, fun q2 hq2 => ⟨_, _, rfl, .inr (SqT.of upd_same), rfl, by decide, _, rfl, ?_⟩⟩
          have e3 : Same H2 (upd H2 q2 (.tup [.str "peg", .str "hang"])) := Same.new hq2
          have hc3 := e3 _ _ hc
          have e4 := e2.trans e3
          generalize upd H2 q2 (.tup [.str "peg", .str "hang"]) = H4 at e3 hc3 e4
          exact iteFd (by decide +kernel) ⟨e4, some (.ref c), rfl⟩
      · rintro σ' H2 ⟨e2, x', rfl⟩
        rw [lw, List.take_length]
        exact ⟨_, rfl, _, _, rfl, rfl, .inl ⟨by decide, by decide⟩, _, _, rfl, rfl, k _ (e1.trans e2)⟩
end
end Rln
end
section
set_option Elab.async false
set_option linter.all false
set_option maxRecDepth 100000
set_option maxHeartbeats 4000000
namespace L2
open PySem PySem.Spec PyProof.Rows
section
variable {P : Program} {w : World} {A : Around} {E : Value → Shared → Prop} {u0 : Shared}
set_option maxHeartbeats 6400000 in
theorem rln_set_list {la : Addr} {vs0 : Array Value} (ks : List Int) {Q : Value → Shared → Prop} (hA : A.handled = none) (hLst : u0.heap.IsList la vs0) (hInts : IntsAre vs0.toList ks) (hBd : ks.length + 1 < scanBound)
    (hOut : ∀ (hp1 : Heap) (tk c : Nat), SetR w hp1 u0.heap.objs.size (fun j => decide (j ∈ ks)) c → c ≤ ks.length → (∀ b o, u0.heap.get? b = some o → hp1.get? b = some o) → Q (.ref u0.heap.objs.size) { u0 with heap := hp1, toks := tk }) :
    wpAny (model P w) A (call (.type "set") [.ref la]) Q E u0 := by
  have hSz : vs0.size = ks.length := by
    have q := IntsAre.length hInts
    rw [Array.length_toList] at q
    exact q
  obtain ⟨c, tl, hmro⟩ := F.called_set.mro
  have hmade := F.called_set.made
  have hsub := F.called_set.sub
  refine wpAny_call (codeAny_of_tree ?_)
  show wpAny _ _ (callAny (.type "set") _) _ _ _
  refine wpAny_pure ⟨Code.quiet_builtin _ (by decide +kernel), codeAny_builtin F.entry_type_call ?_⟩
  rw [Around.under_plain (weight_type_call_type "set" [.ref la] []) rfl]
  have h1 := F.called_set.notType
  have h2 := F.called_set.canCreate
  have hct := F.typeCall_set_1 (.ref la)
  repeat (any_goals (first | assumption | wp_step))

  refine codeAny_mono (code_set_led1 (.ref la) (E := E) (Q₁ := fun obj s₁ => obj = .ref u0.heap.objs.size ∧ s₁ = { u0 with heap := u0.heap.push { cls := .type "set", dict := none, data := .set #[] 0 (.fresh 0 0 (!w.params.followText "set-order")) } }) ⟨rfl, rfl⟩) fun r s₁ hr0 => ?_
  cases r with
  | error e => exact hr0
  | ok fl =>
    cases fl with
    | ret obj =>
      obtain ⟨rfl, rfl⟩ := hr0
      have hSet : (u0.heap.push { cls := .type "set", dict := none, data := .set #[] 0 (.fresh 0 0 (!w.params.followText "set-order")) }).get? u0.heap.objs.size = some { cls := .type "set", dict := none, data := .set #[] 0 (.fresh 0 0 (!w.params.followText "set-order")) } := Heap.get?_push_size _ rfl
      have hTy : Shared.TypeIs { u0 with heap := u0.heap.push { cls := .type "set", dict := none, data := .set #[] 0 (.fresh 0 0 (!w.params.followText "set-order")) } } (.ref u0.heap.objs.size) "set" := ⟨_, hSet, rfl⟩
      have hli := F.called_set.init.lookup
      have hbi := F.called_set.init.bind (.ref u0.heap.objs.size)
      repeat (any_goals (first | assumption | wp_step))

      refine codeAny_mono (codeAny_call_builtin (R := wants (fun r s₂ => r = .none ∧ ∃ hp1 tk c, s₂ = { u0 with heap := hp1, toks := tk } ∧ SetR w hp1 u0.heap.objs.size (fun j => decide (j ∈ ks)) c ∧ c ≤ ks.length ∧
          (∀ b o, u0.heap.get? b = some o → hp1.get? b = some o)) E) F.called_set.init.plain F.entry_set_init (check_set_init_1 hTy ?_)) fun r₂ s₂ hr₂ => ?_
      · obtain ⟨ol, hol0, hcl, nl, hdl⟩ := hLst
        obtain ⟨ocls, odict, odata, oslots⟩ := ol
        simp only at hcl hdl
        subst hcl; subst hdl
        have hol1 : (u0.heap.push { cls := .type "set", dict := none, data := .set #[] 0 (.fresh 0 0 (!w.params.followText "set-order")) }).get? la = some { cls := .type "list", dict := odict, data := .seq vs0 nl, slots := oslots } := Heap.get?_push_of_some _ hol0
        have hsls := F.sub_list_set
        have hslf := F.sub_list_frozenset
        have hne : (Value.type "list" == Value.type "dict") = false := by decide
        have hLs : (u0.heap.push { cls := .type "set", dict := none, data := .set #[] 0 (.fresh 0 0 (!w.params.followText "set-order")) }).IsList la vs0 := ⟨_, hol1, rfl, nl, rfl⟩
        unfold Builtin.«set.__init__» noKeywords Builtin.Frozenset.updateFrom
        generalize hPI : pyIter = PI
        wp_walk
        subst hPI

        refine wpAny_pyIter_list hLs ?_
        refine wpAny_bind (wpAny_runValue ?_)
        have hlS : la < u0.heap.objs.size := Heap.lt_size hol0
        have hA3 : A.in1.in1.in1.handled = none := by simp [hA]
        have hz1 : (u0.heap.push { cls := .type "set", dict := none, data := .set #[] 0 (.fresh 0 0 (!w.params.followText "set-order")) }).objs.size = u0.heap.objs.size + 1 := Heap.size_push ..
        have hnI : la ≠ (u0.heap.push { cls := .type "set", dict := none, data := .set #[] 0 (.fresh 0 0 (!w.params.followText "set-order")) }).objs.size := by
          rw [Heap.size_push]; exact Nat.ne_of_lt (Nat.lt_succ_of_lt hlS)
        have hNf : u0.heap.objs.size ∉ [(u0.heap.push { cls := .type "set", dict := none, data := .set #[] 0 (.fresh 0 0 (!w.params.followText "set-order")) }).objs.size, la] := by
          rw [Heap.size_push]; simp only [List.mem_cons, List.mem_singleton, List.not_mem_nil, or_false, not_or]
          exact ⟨Nat.ne_of_lt (Nat.lt_succ_self _), Nat.ne_of_gt hlS⟩
        have hVals : ∀ (i : Nat) (v : Value), vs0[i]? = some v → ∃ k t, ks[i]? = some k ∧ v = .int k t := fun i v hv => by
          have hi : i < ks.length := by rw [← hSz]; exact (Array.getElem?_eq_some_iff.mp hv).1
          obtain ⟨t, e⟩ := PyProof.Rows.IntsAre.int_at hInts i v (by rw [Array.getElem?_toList]; exact hv)
          refine ⟨ks[i], t, List.getElem?_eq_getElem hi, ?_⟩
          rw [e, List.getD_eq_getElem?_getD, List.getElem?_eq_getElem hi] <;> rfl
        refine set_update_ints ((Walks.list hA3 _ la hnI vs0).toS) u0.heap.objs.size
          hNf ks hSz hBd hVals (vs0.size - 0) 0 _ (by omega) (Nat.zero_le _)
          ⟨⟨_, Heap.get?_push_size _ rfl, rfl, rfl⟩, (hLs.push _)⟩ ?hS0 ?hR
        case hS0 =>
          have hGot : ((u0.heap.push { cls := .type "set", dict := none, data := .set #[] 0 (.fresh 0 0 (!w.params.followText "set-order")) }).push { cls := .type "list_iterator", data := .fields #[.ref la, .int 0 0] }).get? u0.heap.objs.size
              = some { cls := .type "set", dict := none, data := .set #[] 0 (.fresh 0 0 (!w.params.followText "set-order")) } := Heap.get?_push_of_some _ hSet
          exact ⟨0, Nat.le_refl 0, setR_new_at hGot⟩
        case hR =>
          intro s' c' hMv hc' hS'
          obtain ⟨hp1, g2, d', tk1, os'⟩ := s'
          have eg : g2 = u0.gens := hMv.gens
          have ed : d' = u0.drawn := hMv.drawn
          have eo : os' = u0.os := hMv.os
          subst eg; subst ed; subst eo
          show wpAny _ _ _ _ _ _
          refine wpAny_pure ?_
          show wpAny _ _ (ret Value.none) _ _ _
          rw [hSz] at hc'
          refine wpAny_pure ⟨rfl, hp1, tk1, c', rfl, hS', hc', fun b o e => ?_⟩
          have hb0 : b < u0.heap.objs.size := Heap.lt_size e
          have hb1 : b ≠ u0.heap.objs.size := Nat.ne_of_lt hb0
          have hb2 : b ≠ (u0.heap.push { cls := .type "set", dict := none, data := .set #[] 0 (.fresh 0 0 (!w.params.followText "set-order")) }).objs.size := by
            rw [Heap.size_push]; exact Nat.ne_of_lt (Nat.lt_succ_of_lt hb0)
          exact hMv.heap b o (by simp only [List.mem_cons, List.mem_singleton, List.not_mem_nil, or_false, not_or]; exact ⟨hb1, hb2⟩) (Heap.get?_push_of_some _ (Heap.get?_push_of_some _ e))

      · cases r₂ with
        | error e => exact hr₂
        | ok fl₂ =>
          cases fl₂ with
          | ret r =>
            obtain ⟨rfl, hp1, tk, c', rfl, hS', hc', hk'⟩ := hr₂
            repeat (any_goals (first | assumption | wp_step))
            exact hOut _ _ _ hS' hc' hk'
          | _ => exact hr₂.elim
    | _ => exact hr0.elim

end
end L2
end
section
set_option Elab.async false
set_option linter.all false
set_option maxRecDepth 100000
set_option maxHeartbeats 4000000
/-! sorted(tuple of ints), set(tuple), set(list) of ints, len(set) -/
namespace PyProof.Rows
open PySem
section
variable {prog : Program} {w : World} {A : Around} {E : Value → Shared → Prop} {u : Shared}
/-- a tuple's items, gathered -/
theorem rln_collectT {t : Addr} {xs : List Value} {R : List Value → Shared → Prop} (ht : u.heap.IsTuple t xs.toArray) (hl : xs.length ≤ sizeLine)
    (k : R xs { u with heap := (u.heap.push (seqObj "list" #[] 0)).update u.heap.objs.size (Obj.mapSeq (· ++ xs.toArray)) }) :
    wpAny (model prog w) A (collect (.ref t)) R E u := by
  obtain ⟨ob, hob, hcl, ep, hdt⟩ := id ht
  unfold collect
  refine wpAny_bind (wpAny_runValue (codeAny_builtin entry_proto_collect' ?_))
  show wpAny _ _ (do again (.builtin "list.__iadd__" ⟨[← newList [], .ref t], []⟩)) _ _ u
  refine wpAny_bind (wpAny_newList (wpAny_pure ⟨Code.quiet_builtin _ (by decide +kernel), codeAny_builtin entry_list_iadd' ?_⟩))
  show wpAny _ _ (Builtin.List.listExtendWith (.ref u.heap.objs.size) (.ref t) (.ref u.heap.objs.size)) _ _ { u with heap := u.heap.push (seqObj "list" #[] 0) }
  unfold Builtin.List.listExtendWith
  have hob1 : (u.heap.push (seqObj "list" #[] 0)).get? t = some ob := Heap.get?_push_of_some _ hob
  refine wpAny_bind (wpAny_typeOf (T := "tuple") ⟨ob, hob1, hcl⟩ ?_)
  have tt : (Value.type "tuple" == Value.type "tuple") = true := by rfl
  rw [if_pos (by rw [tt]; simp)]
  refine wpAny_bind (listItems_at hob1 hdt ?_)
  refine wpAny_bind (listItems_at (xs := #[]) (n := 0) (Heap.get?_push_size _ rfl) rfl ?_)
  have nt : t ≠ u.heap.objs.size := Nat.ne_of_lt (Heap.lt_size hob)
  rw [if_neg (by simp)]
  refine wpAny_bind (listUpdate_at (xs := #[]) (n := 0) (Heap.get?_push_size _ rfl) rfl ?_ (Nat.zero_le _) (by show (#[] ++ xs.toArray).size ≤ sizeLine + 1; simp only [Array.size_append, List.size_toArray, List.length_nil]; omega))
  refine wpAny_pure ?_
  refine wpAny_bind (wpAny_load (get?_update_seq (Heap.get?_push_size _ rfl) _) ?_)
  show wpAny _ _ (pure ((#[] : Array Value) ++ xs.toArray).toList) R E _
  rw [show ((#[] : Array Value) ++ xs.toArray).toList = xs by simp]
  exact wpAny_pure k
theorem rln_sortedT {t : Addr} {xs : List Value} {ns : List Int} {R : Value → Shared → Prop} (ht : u.heap.IsTuple t xs.toArray) (hI : IntsAre xs ns) (hl : xs.length < 64)
    (k : ∀ (out : Array Value) (ms : List Int), IntsAre out.toList ms → ms.Perm ns → ms.Pairwise (· ≤ ·) → R (.ref (u.heap.objs.size + 1)) { u with heap := sortedAll u.heap xs out }) :
    wpAny (model prog w) A (call (.builtin "sorted") [.ref t]) R E u := by
  refine Calls.call_function_entry kind_sorted plain_sorted entry_sorted (args_sorted1 _) ?_
  unfold Builtin.«sorted»
  refine wpAny_bind (m := checkCount "sorted" 1 1 _) (wpAny_pure ?_)
  refine wpAny_bind (rln_collectT ht (by rw [sizeLine_eq]; omega) ?_)
  refine wpAny_bind (wpAny_newList ?_ (by rw [sizeLine_eq]; omega))
  have z1 : ((u.heap.push (seqObj "list" #[] 0)).update u.heap.objs.size (Obj.mapSeq (· ++ xs.toArray))).objs.size = u.heap.objs.size + 1 := by
    rw [Heap.size_update, size_push']
  have z2 : (((u.heap.push (seqObj "list" #[] 0)).update u.heap.objs.size (Obj.mapSeq (· ++ xs.toArray))).push (seqObj "list" xs.toArray 0)).get? (u.heap.objs.size + 1) = some (seqObj "list" xs.toArray 0) := by
    rw [← z1]
    exact Heap.get?_push_size _ rfl
  show wpAny _ _ _ _ _ { u with heap := ((u.heap.push (seqObj "list" #[] 0)).update u.heap.objs.size (Obj.mapSeq (· ++ xs.toArray))).push (seqObj "list" xs.toArray 0) }
  rw [z1]
  refine wpAny_bind (wpAny_holding (wpAny_call_entry slot_list_sort ⟨_, z2, rfl⟩ entry_list_sort (list_sort_tree z2 hI hl fun out ms a1 a2 a3 => ⟨_, rfl, ?_⟩) (args_list_sort _)))
  exact wpAny_pure ⟨_, rfl, k out ms a1 a2 a3⟩
end
end PyProof.Rows
namespace L2
open PySem PySem.Spec PyProof.Rows
def rSortedT' (K : PySem.W.Frag) : List V → Hp → VK → Prop := fun vs H Q => ∃ (a : Addr) (ns : List Int), vs = [V.ref a] ∧ SqT K H a (ns.map V.int) ∧ ns.length < 64 ∧
  ∀ (ms : List Int) (p : Addr), ms.Perm ns → ms.Pairwise (· ≤ ·) → H p = none → Q (.ref p) (upd H p (.lst (ms.map V.int)))
section
variable {X : Cx}
theorem cr_sortedTup : CallR X (.builtin "sorted") (rSortedT' X.K) := by
  intro pins s σ H vs us Q I r h
  obtain ⟨a, ns, rfl, hs, h64, q⟩ := h
  obtain ⟨its, rv, ht, _⟩ := I.tuple hs
  rw [Vals.ref1 r]
  have hi := rv.ints
  refine rln_sortedT ht hi (by rw [hi.length]; exact h64) fun out ms h1 h2 h3 => ?_
  obtain ⟨ep, he'⟩ := PyProof.Rows.sortedAll_at s.heap its out
  have hlen : (ms.map V.int).length ≤ sizeLine := by
    rw [List.length_map, h2.length_eq]
    exact small64 h64
  exact ⟨.ref _, upd H (s.heap.objs.size + 1) (.lst (ms.map V.int)), I.laid (t' := s.toks) (fun _ _ => sortedAll_old) (Nat.le_succ _) ⟨hlen, out.toList, ep, vals_of_ints h1, he'⟩, rfl, q ms _ h2 h3 (I.hok.fresh (Nat.le_succ _))⟩
/-- len(set) -/
theorem cr_lenSet : CallR X (.builtin "len") (fun xs H Q => ∃ (a : Addr) (S : Int → Bool) (n : Nat), xs = [.ref a] ∧ H a = some (SetO X.w a S n) ∧ n ≤ 1000 ∧ Q (.int n) H) := by
  intro pins s σ H vs us Q I r h
  obtain ⟨a, S, n, rfl, ha, hn1, q⟩ := h
  rw [Vals.ref1 r]
  obtain ⟨o, es, ep, t, ho, hex, hd, g, nd, hm, hb, hf, hn, _⟩ := setO_get I ha
  exact call_len_set ho hex hd hf (by rw [hn]; omega) ⟨.int n, H, I.tok _, ⟨_, by rw [hn]⟩, q⟩
theorem SetR.card {w : World} {h : Heap} {a : Addr} {ns : List Int} {n : Nat} (R : SetR w h a (fun j => decide (j ∈ ns)) n) (nd : ns.Nodup) : n = ns.length := by
  obtain ⟨o, es, ep, t, ho, hex, hd, g, nde, hm, hb, hf, hn, _⟩ := R
  have p : (es.toList.map keyOf).Perm ns := by
    refine (List.perm_ext_iff_of_nodup nde nd).mpr fun k => ?_
    rw [← hm k]
    exact decide_eq_true_iff
  rw [← hn, ← p.length_eq, List.length_map, Array.length_toList]
def rSetT (K : PySem.W.Frag) (w : World) : List V → Hp → VK → Prop := fun xs H Q => ∃ (a : Addr) (ns : List Int), xs = [.ref a] ∧ SqT K H a (ns.map V.int) ∧ ns.length ≤ 1000 ∧
  ∀ p n, H p = none → n ≤ ns.length → (ns.Nodup → n = ns.length) → Q (.ref p) (upd H p (SetO w p (fun j => decide (j ∈ ns)) n))
theorem cr_setT (hc : X.calm = true) : CallR X (.type "set") (rSetT X.K X.w) := by
  intro pins s σ H vs us Q I r h
  obtain ⟨a, ns, rfl, hs, hl, q⟩ := h
  obtain ⟨its, rv, ht, _⟩ := I.tuple hs
  rw [Vals.ref1 r]
  refine call_set_tupI ns (I.ok.hd hc) (show s.heap.IsTuple a its.toArray from ht) (by simpa using rv.ints) (by unfold scanBound; omega) fun h' tk c R hcn k => ?_
  exact ⟨.ref _, upd H s.heap.objs.size (SetO X.w s.heap.objs.size (fun j => decide (j ∈ ns)) c), I.laid (t' := tk) k (Nat.le_refl _) (setO_new R), rfl, q _ c (I.hok.fresh (Nat.le_refl _)) hcn R.card⟩
end
end L2
namespace L2
open PySem PySem.Spec PyProof.Rows
section
variable {X : Cx}
theorem SetR.keys {w : World} {h : Heap} {a : Addr} {ns : List Int} {n : Nat} (R : SetR w h a (fun j => decide (j ∈ ns)) n) : ∃ ks : List Int, ks.Nodup ∧ (∀ k ∈ ks, k ∈ ns) ∧ n = ks.length := by
  obtain ⟨o, es, ep, t, ho, hex, hd, g, nde, hm, hb, hf, hn, _⟩ := R
  refine ⟨es.toList.map keyOf, nde, fun k hk => ?_, ?_⟩
  · have := (hm k).mpr hk
    exact of_decide_eq_true this
  · rw [← hn, List.length_map, Array.length_toList]
def rSetLi (K : PySem.W.Frag) (w : World) : List V → Hp → VK → Prop := fun xs H Q => ∃ (a : Addr) (ns : List Int), xs = [.ref a] ∧ SqL K H a (ns.map V.int) ∧ ns.length ≤ 1000 ∧
  ∀ p (ks : List Int), H p = none → ks.Nodup → (∀ k ∈ ks, k ∈ ns) → Q (.ref p) (upd H p (SetO w p (fun j => decide (j ∈ ns)) ks.length))
theorem cr_setL (hc : X.calm = true) : CallR X (.type "set") (rSetLi X.K X.w) := by
  intro pins s σ H vs us Q I r h
  obtain ⟨a, ns, rfl, hs, hl, q⟩ := h
  obtain ⟨its, rv, ht, _⟩ := I.list hs
  rw [Vals.ref1 r]
  refine rln_set_list ns (I.ok.hd hc) ht.isList (by simpa using rv.ints) (by unfold scanBound; omega) fun h' tk c R hcn k => ?_
  obtain ⟨ks, k1, k2, rfl⟩ := R.keys
  exact ⟨.ref _, upd H s.heap.objs.size (SetO X.w s.heap.objs.size (fun j => decide (j ∈ ns)) ks.length), I.laid (t' := tk) k (Nat.le_refl _) (setO_new R), rfl, q _ ks (I.hok.fresh (Nat.le_refl _)) k1 k2⟩
end
end L2
end
section
set_option Elab.async false
set_option linter.all false
set_option maxRecDepth 100000
set_option maxHeartbeats 4000000
namespace L2
open PySem PySem.Spec PyProof.Rows
section
variable {X : Cx} {K : PySem.W.Frag}
theorem pg_tupB {pos : Pos} {es : List Expr} {k : Nat} {t : TGs} {n : Nat} (hK : X.K = K) (hc : X.calm = true) (h : PGs X es t)
    (hn : (assignEach es X.env).length = n := by rfl) (hst : (assignEach es X.env).findIdx? (·.1) = none := by rfl) : PG X (.Tuple es k pos) (gTup K n t) := by
  subst hK
  exact pg_tup hc h hn hst
theorem pe_fldB {e : Expr} {f : Str} {pos : Pos} {ta : TE} (hK : X.K = K) (he : PE X e ta) (hb : attributeBase e f X.env (eval e X.env) = eval e X.env) : PE X (.Attribute e f pos) (tFld K ta f) := by
  subst hK
  exact pe_fld he hb
theorem ix_tupB (hK : X.K = K) : IxR X (rIxT K) := by
  subst hK
  exact ix_tup
theorem ix_listB (hK : X.K = K) : IxR X (rIxL K) := by
  subst hK
  exact ix_list
theorem op_in_seqB (hK : X.K = K) : OpR X (compareOp .In) (rIn K false) := by
  subst hK
  exact op_in_seq
theorem op_notIn_seqB (hK : X.K = K) : OpR X (compareOp .NotIn) (rIn K true) := by
  subst hK
  exact op_notIn_seq
theorem cr_setTB {w : World} (hK : X.K = K) (hw : X.w = w) (hc : X.calm = true) : CallR X (.type "set") (rSetT K w) := by
  subst hK hw
  exact cr_setT hc
theorem cr_setLB {w : World} (hK : X.K = K) (hw : X.w = w) (hc : X.calm = true) : CallR X (.type "set") (rSetLi K w) := by
  subst hK hw
  exact cr_setL hc
theorem cr_sortedSetB {w : World} (hw : X.w = w) (hc : X.calm = true) : CallR X (.builtin "sorted") (rSortedSet w) := by
  subst hw
  exact cr_sortedSet hc
theorem cr_lenSetB {w : World} (hw : X.w = w) : CallR X (.builtin "len") (fun xs H Q => ∃ (a : Addr) (S : Int → Bool) (n : Nat), xs = [.ref a] ∧ H a = some (SetO w a S n) ∧ n ≤ 1000 ∧ Q (.int n) H) := by
  subst hw
  exact cr_lenSet
end
end L2
end
section
set_option Elab.async false
set_option linter.all false
set_option maxRecDepth 100000
set_option maxHeartbeats 4000000
namespace Rln
open PySem PySem.Spec PyProof.Rows L2
theorem valT_int {a : TV Str} {i : Int} (h : valT a = .int i) : a = .int i := by
  cases a <;> first | (cases h; rfl) | cases h
section
variable {P : Program} {w : World} {K : PySem.W.Frag} {mg : Str → Option Value} {base : Heap}
abbrev N_is_same : List Str := ["told", "shown"]
theorem sc_is_same : FnScope N_is_same ["told", "shown"] (defScope s_is_same) := ⟨rfl, rfl, rfl, by decide +kernel, rfl, by decide +kernel, by decide +kernel⟩
def spSame : Sp := fun vs H Q _ => ∃ u v, vs = [u, v] ∧ flat4 u = true ∧ flat4 v = true ∧ Q (.bl (decide (u = v))) H
theorem cal_is_same (T : Tx K mg) : Cal P w K mg base 2 "is_same" spSame [] := by
  refine calD T.f_is_same T.g_is_same sc_is_same (fun vs H Q E h => ?_) (fun _ _ _ _ _ _ us hl => match us, hl with | [_, _], _ => rfl) (fun cdv A outer s H vs Q E hr h => ?_)
  · obtain ⟨v, x, rfl, _⟩ := h
    rfl
  · obtain ⟨u, v, rfl, hu, hv, k⟩ := h
    refine ⟨_, (pss_cons (ps_if (pt_cmpR op_isN (pv 0) pe_non (nomark _)) (pss_one (ps_ret (pe_cmpR op_isN (pv 1) pe_non (nomark _)))) pss_nil)
      (pss_cons (ps_if (pt_val (pe_callB call_isi (by rfl) T.n_isinstance (by decide +kernel) (pa_cons (pv 0) (pa_cons (pe_bltn (v := .ty "bool") (by rfl) T.n_bool boot_bool rfl) pa_nil)))) (pss_one (ps_ret (pe_and (pe_callB call_isi (by rfl) T.n_isinstance (by decide +kernel) (pa_cons (pv 1) (pa_cons (pe_bltn (v := .ty "bool") (by rfl) T.n_bool boot_bool rfl) pa_nil))) (pe_one (pe_cmpR op_eq (pv 0) (pv 1) (nomark _)))))) pss_nil)
      (pss_cons (ps_if (pt_val (pe_callB call_isi (by rfl) T.n_isinstance (by decide +kernel) (pa_cons (pv 0) (pa_cons (pe_bltn (v := .ty "str") (by rfl) T.n_str boot_str rfl) pa_nil)))) (pss_one (ps_ret (pe_and (pe_callB call_isi (by rfl) T.n_isinstance (by decide +kernel) (pa_cons (pv 1) (pa_cons (pe_bltn (v := .ty "str") (by rfl) T.n_str boot_str rfl) pa_nil))) (pe_one (pe_cmpR op_eq (pv 0) (pv 1) (nomark _)))))) pss_nil)
      (pss_one (ps_ret (pe_and (C8.pe_c (cal_is_whole T) hr (by decide) (by rfl) (pa_cons (pv 1) pa_nil)) (pe_one (pe_cmpR op_eq (pv 0) (pv 1) (nomark _))))))))), ?_⟩
    refine ⟨_, rfl, rfl, _, rfl, ?_⟩
    cases u with
    | non =>
      refine iteT ⟨_, rfl, rfl, ?_⟩
      have : decide (v = V.non) = decide (V.non = v) := by rw [Bool.eq_iff_iff]; simp [eq_comm]
      show Q (.bl (decide (v = V.non))) H
      rw [this]
      exact k
    | bl b =>
      refine iteF ⟨_, rfl, _, _, _, _, _, rfl, .ty _, ty_flat hu, k_bool hu, _, rfl, iteT ?_⟩
      refine ⟨_, rfl, _, _, _, _, _, rfl, .ty _, ty_flat hv, k_bool hv, _, rfl, ?_⟩
      cases v with
      | bl c => exact iteT ⟨_, rfl, _, rfl, rfl, k⟩
      | non => exact iteF k
      | int i => exact iteF k
      | str x => exact iteF k
      | _ => cases hv
    | str x =>
      refine iteF ⟨_, rfl, _, _, _, _, _, rfl, .ty _, ty_flat hu, k_bool hu, _, rfl, iteF ?_⟩
      refine ⟨_, rfl, _, _, _, _, _, rfl, .ty _, ty_flat hu, k_str hu, _, rfl, iteT ?_⟩
      refine ⟨_, rfl, _, _, _, _, _, rfl, .ty _, ty_flat hv, k_str hv, _, rfl, ?_⟩
      cases v with
      | str c => exact iteT ⟨_, rfl, _, rfl, rfl, k⟩
      | non => exact iteF k
      | int i => exact iteF k
      | bl x => exact iteF k
      | _ => cases hv
    | int i =>
      refine iteF ⟨_, rfl, _, _, _, _, _, rfl, .ty _, ty_flat hu, k_bool hu, _, rfl, iteF ?_⟩
      refine ⟨_, rfl, _, _, _, _, _, rfl, .ty _, ty_flat hu, k_str hu, _, rfl, iteF ?_⟩
      refine ⟨_, rfl, v, rfl, hv, _, rfl, ?_⟩
      cases v with
      | int c => exact iteT ⟨_, rfl, _, rfl, rfl, k⟩
      | non => exact iteF k
      | str i => exact iteF k
      | bl x => exact iteF k
      | _ => cases hv
    | _ => cases hu
abbrev N_Form_parts : List Str := ["self"]
theorem sc_Form_parts : FnScope N_Form_parts ["self"] (defScope s_Form_parts) := ⟨rfl, rfl, rfl, by decide +kernel, rfl, by decide +kernel, by decide +kernel⟩
def spParts (K : PySem.W.Frag) : Sp := fun vs H Q _ => ∃ v, vs = [v] ∧ FormAt K H v ∧ ∀ r a b q, H r = some (.tup [.int a, .int b, .int q]) → sm a → sm b → sm q → Q (.ref r) H
theorem met_parts (T : Tx K mg) : Met P w K mg base 1 (cForm K) "parts" (spParts K) [] := by
  refine metD T.f_Form_parts T.c_Form T.m_Form_parts sc_Form_parts (fun vs H Q E h => ?_) (fun _ _ _ _ _ _ us hl => match us, hl with | [_], _ => rfl) (fun cdv A outer s H vs Q E hr h => ?_)
  · obtain ⟨v, rfl, _⟩ := h
    rfl
  · obtain ⟨v, rfl, ⟨f, dx, r, a, b, q, rfl, h1, h2, s1, s2, s3⟩, k⟩ := h
    refine ⟨_, (pss_one (ps_ret (pe_fld (pv 0) rfl))), ?_⟩
    exact ⟨_, rfl, f, _, dx, _, _, rfl, h1, T.c_Form, T.na_Form_row, rfl, k r a b q h2 s1 s2 s3⟩
theorem k_form (T : Tx K mg) {v : V} (h : flat4 v = true) : PySem.W.kitOne K (.type (tyN v)) (.ref (cForm K)) = some false := by
  cases v with
  | non => exact T.k_none
  | bl b => exact T.k_bool
  | int i => exact T.k_int
  | str x => exact T.k_str
  | _ => cases h
theorem ty_ins {H : Hp} {C : Addr} (c : C8.InsC K C) {f dx : Addr} {fs} (h : H f = some (.ins C dx fs)) : TyX K H (.ref f) (.ref C) := .base (.ins h c.cl c.ha c.hn c.htk c.hm)
abbrev N_is_worth : List Str := ["told", "shown", "distance", "a", "b", "q"]
theorem sc_is_worth : FnScope N_is_worth ["told", "shown", "distance"] (defScope s_is_worth) := ⟨rfl, rfl, rfl, by decide +kernel, rfl, by decide +kernel, by decide +kernel⟩
def spWorth (K : PySem.W.Frag) : Sp := fun vs H Q _ => ∃ (a t : TV Str) (v : V) (d : Int), vs = [valT a, v, .int d] ∧ TAt K H v t ∧ ∀ b : Bool, (b = true → compatV a t) → Q (.bl b) H
theorem cal_is_worth (T : Tx K mg) : Cal P w K mg base 3 "is_worth" (spWorth K) [] := by
  refine calD T.f_is_worth T.g_is_worth sc_is_worth (fun vs H Q E h => ?_) (fun _ _ _ _ _ _ us hl => match us, hl with | [_, _, _], _ => rfl) (fun cdv A outer s H vs Q E hr h => ?_)
  · obtain ⟨v, x, d, _, rfl, _⟩ := h
    rfl
  · obtain ⟨a, t, v, d, rfl, ht, k⟩ := h
    refine ⟨_, (pss_cons (ps_if (pt_not (pt_val (pe_callB call_isi (by rfl) T.n_isinstance (by decide +kernel) (pa_cons (pv 1) (pa_cons (pe_glob (v := .ref _) (by rfl) T.g_Form rfl) pa_nil))))) (pss_one (ps_ret (C8.pe_c (cal_is_same T) hr (by decide) (by rfl) (pa_cons (pv 0) (pa_cons (pv 1) pa_nil))))) pss_nil)
      (pss_cons (ps_asg (C8.pe_mt0 (met_parts T) hr (by decide) (pv 1)) (pg_tup rfl (pgs_cons (pg_name (i := 3) sc_is_worth.nd rfl (Or.inl rfl)) (pgs_cons (pg_name (i := 4) sc_is_worth.nd rfl (Or.inl rfl)) (pgs_cons (pg_name (i := 5) sc_is_worth.nd rfl (Or.inl rfl)) pgs_nil)))))
      (pss_one (ps_ret (pe_and (C8.pe_c (cal_is_whole T) hr (by decide) (by rfl) (pa_cons (pv 0) pa_nil)) (pe_one (pe_cmpR op_eq (pe_op op_mul (pv 0) (pv 5)) (pe_op op_add (pv 3) (pe_op op_mul (pv 4) (pv 2))) (nomark _)))))))), ?_⟩
    have flat : ∀ t' : TV Str, t = t' → (∀ z : t = .form, False) → v = valT t → flat4 v = true := fun t' _ _ e => by rw [e]; exact told_flat
    have plain : v = valT t → t ≠ .form → (∀ i, t ≠ .int i) → Q (.bl (decide (valT a = v))) H := fun e n1 n2 => k _ fun z => by
      have z := of_decide_eq_true z
      rw [e] at z
      cases t with
      | form => exact absurd rfl n1
      | _ => exact z
    cases t with
    | form =>
      obtain ⟨f, dx, r, x, y, q, rfl, h1, h2, s1, s2, s3⟩ := id ht
      refine ⟨_, rfl, _, _, _, _, _, rfl, .own _, ty_ins T.ins_Form h1, T.ins_Form.me, _, rfl, iteF ?_⟩
      refine ⟨_, rfl, f, dx, _, rfl, h1, rfl, _, rfl, ht, fun r x y q h2 s1 s2 s3 => ?_⟩
      refine ⟨r, _, rfl, SqT.of h2, rfl, _, _, rfl, _, _, rfl, _, _, rfl, rfl, ?_⟩
      refine ⟨_, rfl, _, rfl, told_flat, _, rfl, ?_⟩
      cases ea : valT a with
      | int i =>
        have := valT_int ea
        subst this
        refine iteT ⟨_, rfl, _, rfl, _, _, rfl, rfl, .inr ⟨?_, ?_⟩, _, rfl, _, rfl, _, rfl, _, _, rfl, rfl, .inl ⟨?_, ?_⟩, _, _, rfl, rfl, rfl, ?_⟩
        · have := s3.1; omega
        · have := s3.2; omega
        · have := s2.1; omega
        · have := s2.2; omega
        · exact k _ fun _ => ⟨i, rfl⟩
      | non => exact iteF (k _ fun z => by cases z)
      | bl b => exact iteF (k _ fun z => by cases z)
      | str b => exact iteF (k _ fun z => by cases z)
      | _ => have := told_flat (a := a); rw [ea] at this; cases this
    | int i => exact False.elim ht
    | non =>
      have e : v = .non := ht
      subst e
      exact ⟨_, rfl, _, _, _, _, _, rfl, .own _, ty_flat rfl, k_form T rfl, _, rfl, iteT ⟨_, rfl, _, rfl, _, _, rfl, told_flat, rfl, plain rfl (fun z => nomatch z) (fun _ z => nomatch z)⟩⟩
    | bl b =>
      have e : v = .bl b := ht
      subst e
      exact ⟨_, rfl, _, _, _, _, _, rfl, .own _, ty_flat rfl, k_form T rfl, _, rfl, iteT ⟨_, rfl, _, rfl, _, _, rfl, told_flat, rfl, plain rfl (fun z => nomatch z) (fun _ z => nomatch z)⟩⟩
    | no =>
      have e : v = .str "no" := ht
      subst e
      exact ⟨_, rfl, _, _, _, _, _, rfl, .own _, ty_flat rfl, k_form T rfl, _, rfl, iteT ⟨_, rfl, _, rfl, _, _, rfl, told_flat, rfl, plain rfl (fun z => nomatch z) (fun _ z => nomatch z)⟩⟩
    | str b =>
      have e : v = .str b := ht
      subst e
      exact ⟨_, rfl, _, _, _, _, _, rfl, .own _, ty_flat rfl, k_form T rfl, _, rfl, iteT ⟨_, rfl, _, rfl, _, _, rfl, told_flat, rfl, plain rfl (fun z => nomatch z) (fun _ z => nomatch z)⟩⟩
abbrev N_is_row : List Str := ["row", "told", "distance", "one", "shown"]
theorem sc_is_row : FnScope N_is_row ["row", "told", "distance"] (defScope s_is_row) := ⟨rfl, rfl, rfl, by decide +kernel, rfl, by decide +kernel, by decide +kernel⟩
def spRow (K : PySem.W.Frag) : Sp := fun vs H Q _ => ∃ (as ts : List (TV Str)) (A E : Addr) (us : List V) (d : Int), vs = [.ref E, .ref A, .int d] ∧ H A = some (.lst (as.map valT)) ∧ H E = some (.lst us) ∧ TsAt K H us ts ∧ as.length = ts.length ∧ as.length ≤ 20 ∧
  ∀ (H' : Hp) (b : Bool), Same H H' → (b = true → ∀ (i : Nat) a t, as[i]? = some a → ts[i]? = some t → compatV a t) → Q (.bl b) H'
theorem cal_is_row (T : Tx K mg) : Cal P w K mg base 4 "is_row" (spRow K) [] := by
  refine calD T.f_is_row T.g_is_row sc_is_row (fun vs H Q E h => ?_) (fun _ _ _ _ _ _ us hl => match us, hl with | [_, _, _], _ => rfl) (fun cdv A outer s H vs Q E hr h => ?_)
  · obtain ⟨v, x, d, _, _, _, rfl, _⟩ := h
    rfl
  · obtain ⟨as, ts, A, E, us, d, rfl, hA, hE, R, hl, hl2, k⟩ := h
    refine ⟨_, (pss_one (ps_ret (pe_callB (cr_all rfl) (by rfl) T.n_all (by decide +kernel) (pa_cons (pe_lc (own := [("one", 3), ("shown", 4)]) rfl sc_is_row.nd (pi_zip (by rfl) T.n_zip (pa_cons (pv 1) (pa_cons (pv 0) pa_nil))) (blkOk_by (N := N_is_row) (sc := defScope s_is_row) (own := [("one", 3), ("shown", 4)]) (by decide +kernel)) (fun _ _ _ _ _ => (pg_tupB (K := K) (n := 2) rfl rfl (pgs_cons (pg_name (i := 3) sc_is_row.nd rfl (Or.inl rfl)) (pgs_cons (pg_name (i := 4) sc_is_row.nd rfl (Or.inl rfl)) pgs_nil)))) (fun _ _ _ _ _ => pts_nil) (fun _ _ _ _ _ => (C8.pe_c (cal_is_worth T) hr (by decide) (by rfl) (pa_cons (pv 3) (pa_cons (pv 4) (pa_cons (pv 2) pa_nil)))))) pa_nil)))), ?_⟩
    have lu := R.len
    refine ⟨_, rfl, _, rfl, A, E, _, _, rfl, SqL.of hA, SqL.of hE, fun D hD => lc_it (walk_zip (xs := as.map valT) (ys := us) (n := as.length) (by rw [List.length_map]; omega))
      (fun i H' => Same H H' ∧ ∃ bs : List Bool, H' D = some (.lst (bs.map V.bl)) ∧ bs.length = i ∧ ∀ (j : Nat) a t, j < i → bs[j]? = some true → as[j]? = some a → ts[j]? = some t → compatV a t) ?_ ?_ ?_ ?_⟩
    · exact ⟨Same.new hD, [], upd_same, rfl, fun j a t hj => absurd hj (by omega)⟩
    · rintro i H2 _ ⟨e2, _⟩
      exact ⟨SqL.of (e2 _ _ hA), SqL.of (e2 _ _ hE)⟩
    · rintro i x H2 H3 hi ⟨e2, bs, hb, lb, hp⟩ ⟨t, x1, y1, rfl, ht, rfl, hx, hy⟩
      have hi2 : i < ts.length := by omega
      obtain ⟨v, hv, tv⟩ := R.get (List.getElem?_eq_getElem hi2)
      dsimp only at hx hy
      rw [List.getElem?_map, List.getElem?_eq_getElem hi] at hx
      cases hx
      rw [hv] at hy
      have ey : v = y1 := Option.some.inj hy
      subst ey
      refine ⟨t, _, rfl, SqT.of upd_same, rfl, _, _, rfl, _, _, rfl, rfl, rfl, lcYes (iteT ?_)⟩
      have e3 : Same H2 (upd H2 t (.tup [valT as[i], v])) := Same.new ht
      refine ⟨_, rfl, _, rfl, _, rfl, as[i], ts[i], v, d, rfl, (tv.mono e2).mono e3, fun b hb' => ?_⟩
      refine ⟨_, e3 _ _ hb, by rw [List.length_map, lb, sizeLine_eq]; omega, (e2.trans e3).put hD, bs ++ [b], ?_, by rw [List.length_append, lb]; rfl, fun j a t' hj hbj ha ht' => ?_⟩
      · rw [upd_same, List.map_append]
        rfl
      · rcases Nat.lt_succ_iff_lt_or_eq.mp hj with hj | rfl
        · rw [List.getElem?_append_left (by omega)] at hbj
          exact hp j a t' hj hbj ha ht'
        · rw [List.getElem?_append_right (by omega), lb, Nat.sub_self] at hbj
          cases hbj
          rw [List.getElem?_eq_getElem hi] at ha
          rw [List.getElem?_eq_getElem hi2] at ht'
          cases ha
          cases ht'
          exact hb' rfl
    · rintro H2 ⟨e2, bs, hb, lb, hp⟩
      refine ⟨D, bs, rfl, SqL.of hb, k _ _ e2 fun ball i a t ha ht => ?_⟩
      have hi : i < as.length := (List.getElem?_eq_some_iff.mp ha).1
      refine hp i a t hi ?_ ha ht
      rw [List.getElem?_eq_getElem (by omega)]
      exact congrArg some (List.all_eq_true.mp ball _ (List.getElem_mem _))
abbrev N_rows_of : List Str := ["deeds", "remainder"]
theorem sc_rows_of : FnScope N_rows_of ["deeds"] (defScope s_rows_of) := ⟨rfl, rfl, rfl, by decide +kernel, rfl, by decide +kernel, by decide +kernel⟩
def spRows (K : PySem.W.Frag) : Sp := fun vs H Q _ => ∃ v ds, vs = [v] ∧ DsAt K H v ds ∧ (∀ x ∈ ds, deedOk x) ∧ ds.length ≤ 20 ∧ ∀ H' D, Same H H' → H D = none → RowsAt K H' (.ref D) ds → Q (.ref D) H'
theorem cal_rows_of (T : Tx K mg) : Cal P w K mg base 9 "rows_of" (spRows K) [] := by
  refine calD T.f_rows_of T.g_rows_of sc_rows_of (fun vs H Q E h => ?_) (fun _ _ _ _ _ _ us hl => match us, hl with | [_], _ => rfl) (fun cdv A outer s H vs Q E hr h => ?_)
  · obtain ⟨v, x, rfl, _⟩ := h
    rfl
  · obtain ⟨v, ds, rfl, hD, ho, hl, k⟩ := h
    refine ⟨_, (pss_one (ps_ret (pe_lc (own := [("remainder", 1)]) rfl sc_rows_of.nd (pi_range1 (by rfl) T.n_range (pa_cons (C8.pe_c (cal_modulus_of T) hr (by decide) (by rfl) (pa_cons (pv 0) pa_nil)) pa_nil)) (blkOk_by (N := N_rows_of) (sc := defScope s_rows_of) (own := [("remainder", 1)]) (by decide +kernel)) (fun _ _ _ _ _ => (pg_name (i := 1) sc_rows_of.nd rfl (Or.inl rfl))) (fun _ _ _ _ _ => pts_nil) (fun _ _ _ _ _ => (pe_ix (ix_tupB (K := K) rfl) (C8.pe_c (cal_story_of T) hr (by decide) (by rfl) (pa_cons (pv 0) (pa_cons (pv 1) pa_nil))) pe_int (fun _ _ => rfl)))))), ?_⟩
    have hm := D60_bd _ (modOf_D60 ho)
    refine ⟨_, rfl, v, ds, rfl, hD, ho, hl, fun H1 e1 => ?_⟩
    have e1 : Same H H1 := e1
    refine ⟨_, rfl, by omega, by omega, fun D hDn => lc_it walk_range (fun i H' => Same H1 H' ∧ ∃ rs, H' D = some (.lst rs) ∧ rs.length = i ∧ ∀ j, j < i → ∃ E us, rs[j]? = some (.ref E) ∧ H' E = some (.lst us) ∧ TsAt K H' us (toldS j ds) ∧ E ≠ D) ?_ (fun _ _ _ _ => trivial) ?_ ?_⟩
    · exact ⟨Same.new hDn, [], upd_same, rfl, fun j hj => absurd hj (by omega)⟩
    · rintro i x H2 H3 hi ⟨e2, rs, hrs, lrs, hp⟩ ⟨eH, rfl⟩
      have eH2 : H2 = H3 := eH.symm
      subst eH2
      have hi' : (i : Int) < modOf ds := by omega
      refine ⟨rfl, lcYes (iteT ⟨_, rfl, _, rfl, v, ds, _, rfl, hD.mono (e1.trans e2), ho, hl, fun H4 t p D2 h us e4 ht hD2 ht4 L4 hD4 R4 => ?_⟩)⟩
      have e4 : Same H2 H4 := e4
      refine ⟨t, _, _, _, rfl, rfl, SqT.of ht4, rfl, _, e4 _ _ hrs, by rw [lrs, sizeLine_eq]; omega, (e2.trans e4).put hDn, _, upd_same, by rw [List.length_append, lrs]; rfl, fun j hj => ?_⟩
      have nD2 : D2 ≠ D := fun z => by rw [z, hrs] at hD2; cases hD2
      have hDD : H4 D = some (.lst rs) := e4 _ _ hrs
      have keepT : ∀ {v t}, TAt K H4 v t → TAt K (upd H4 D (.lst (rs ++ [.ref D2]))) v t := fun {v t} T0 => by
        cases t with
        | form =>
          obtain ⟨f, fdx, r', a', b', q', rfl, g1, g2, g3⟩ := T0
          exact ⟨f, fdx, r', a', b', q', rfl, by rw [upd_ne (ne_of g1 hDD (by intro z; cases z))]; exact g1, by rw [upd_ne (ne_of g2 hDD (by intro z; cases z))]; exact g2, g3⟩
        | _ => exact T0
      rcases Nat.lt_succ_iff_lt_or_eq.mp hj with hj | rfl
      · obtain ⟨E', us', g1, g2, g3, g4⟩ := hp j hj
        refine ⟨E', us', ?_, ?_, (g3.mono e4).keep keepT, g4⟩
        · rw [List.getElem?_append_left (by omega)]
          exact g1
        · rw [upd_ne g4]
          exact e4 _ _ g2
      · refine ⟨D2, us, ?_, ?_, ?_, nD2⟩
        · rw [List.getElem?_append_right (by omega), lrs, Nat.sub_self]
          rfl
        · rw [upd_ne nD2]
          exact hD4
        · have : (0 : Int) + (j : Int) = j := by omega
          rw [this] at R4
          exact R4.keep keepT
    · rintro H2 ⟨e2, rs, hrs, lrs, hp⟩
      have hD0 : H D = none := by
        cases q : H D with
        | none => rfl
        | some u => rw [e1 _ _ q] at hDn; cases hDn
      refine k H2 D (e1.trans e2) hD0 ⟨D, rs, rfl, hrs, by omega, fun i hi => ?_⟩
      obtain ⟨E', us', g1, g2, g3, _⟩ := hp i (by omega)
      exact ⟨E', us', g1, g2, g3⟩
abbrev N_start_of : List Str := ["deeds", "rows", "distance"]
theorem sc_start_of : FnScope N_start_of ["deeds", "rows"] (defScope s_start_of) := ⟨rfl, rfl, rfl, by decide +kernel, rfl, by decide +kernel, by decide +kernel⟩
def spStart (K : PySem.W.Frag) : Sp := fun vs H Q _ => ∃ v u ds, vs = [v, u] ∧ DsAt K H v ds ∧ RowsAt K H u ds ∧ (∀ x ∈ ds, deedOk x) ∧ ds.length ≤ 20 ∧ boundOf ds < 2 ^ 16 ∧
  ∀ H' (d : Int), Same H H' → 1 ≤ d → d ≤ boundOf ds → (∀ e, d ≤ e → e < boundOf ds → rowOk ds e) → Q (.int d) H'
theorem cal_start_of (T : Tx K mg) : Cal P w K mg base 7 "start_of" (spStart K) [] := by
  refine calD T.f_start_of T.g_start_of sc_start_of (fun vs H Q E h => ?_) (fun _ _ _ _ _ _ us hl => match us, hl with | [_, _], _ => rfl) (fun cdv A outer s H vs Q E hr h => ?_)
  · obtain ⟨v, x, d, rfl, _⟩ := h
    rfl
  · obtain ⟨v, u, ds, rfl, hD, hR, ho, hl, hb, k⟩ := h
    refine ⟨_, (pss_cons (ps_set (i := 2) sc_start_of.nd rfl (Or.inl rfl) (C8.pe_c (cal_bound_of T) hr (by decide) (by rfl) (pa_cons (pv 0) pa_nil)))
      (pss_cons (ps_while PassesOwn.never (PW.pt (pw_and (pt_cmpR op_gt (pv 2) pe_int (nomark _)) (pw_and1 (pt_val (C8.pe_c (cal_is_row T) hr (by decide) (by rfl) (pa_cons (pe_ix ix_list (pv 1) (pe_op op_mod (pe_op op_sub (pv 2) pe_int) (pe_callB call_len_seq (by rfl) T.n_len PySem.boot_len (pa_cons (pv 1) pa_nil))) (fun _ _ => rfl)) (pa_cons (C8.pe_c (cal_told_of T) hr (by decide) (by rfl) (pa_cons (pv 0) (pa_cons (pe_op op_sub (pv 2) pe_int) pa_nil))) (pa_cons (pe_op op_sub (pv 2) pe_int) pa_nil)))))))) (pss_one (ps_aug (i := 2) sc_start_of.nd rfl (Or.inl rfl) pe_int ip_sub)))
      (pss_one (ps_ret (pv 2))))), ?_⟩
    refine ⟨_, rfl, v, ds, rfl, hD, ho, hl, fun H1 e1 => ?_⟩
    have e1 : Same H H1 := e1
    have b1 : 1 ≤ boundOf ds := by
      unfold boundOf reachOf
      have : ∀ (l : List (Deed Str)) (rh : Int × Int), 0 ≤ rh.1 → 0 ≤ rh.2 → 0 ≤ (l.foldl (fun rh x => reachStep rh x.inner) rh).1 := fun l => by
        induction l with
        | nil => intro rh h _; exact h
        | cons x l ih =>
          intro rh h1 h2
          rw [List.foldl_cons]
          refine ih _ ?_ ?_ <;> (unfold reachStep; split <;> (try dsimp only) <;> omega)
      have := this ds (0, 0) (by decide) (by decide)
      omega
    have hm := D60_bd _ (modOf_D60 ho)
    refine while_to (fun σ' H' => ∃ d : Int, 1 ≤ d ∧ d ≤ boundOf ds ∧ σ' = [some v, some u, some (.int d)] ∧ Same H1 H' ∧ ∀ e, d ≤ e → e < boundOf ds → rowOk ds e)
      (fun σ' _ => match σ' with | [_, _, some (.int y)] => y.toNat | _ => 0) ⟨_, b1, Int.le_refl _, rfl, fun _ _ e => e, fun e h1 h2 => absurd h1 (by omega)⟩ ?_
    rintro σ' H2 ⟨d, d1, d2, rfl, e2, hrow⟩
    refine ⟨_, rfl, _, _, rfl, rfl, _, rfl, ?_⟩
    by_cases c1 : d > 1
    · refine iteTd (decide_eq_true c1) ?_
      have hR2 := hR.mono (e1.trans e2)
      obtain ⟨D, rs, rfl, hrs, lrs, hrow2⟩ := id hR2
      have hlt : (d - 1) % modOf ds < modOf ds := Int.emod_lt_of_pos _ (by omega)
      have hge : 0 ≤ (d - 1) % modOf ds := Int.emod_nonneg _ (by omega)
      obtain ⟨E', us, g1, g2, g3⟩ := hrow2 ((d - 1) % modOf ds).toNat (by omega)
      have hidx : atI rs ((d - 1) % modOf ds) = some (.ref E') := by
        have := atI_nat g1
        rw [Int.toNat_of_nonneg hge] at this
        exact this
      refine ⟨_, rfl, _, rfl, _, _, rfl, rfl, _, rfl, D, rs, rfl, .inl (SqL.of hrs), _, _, rfl, rfl, by rw [lrs]; omega, D, rs, _, _, rfl, rfl, SqL.of hrs, by show atI rs ((d - 1) % (rs.length : Int)) = _; rw [lrs]; exact hidx, ?_⟩
      refine ⟨_, rfl, _, rfl, _, _, rfl, rfl, _, ds, d - 1, rfl, hD.mono (e1.trans e2), ho, hl, by omega, by omega, fun H3 A e3 hA hA3 => ?_⟩
      have e3 : Same H2 H3 := e3
      refine ⟨_, rfl, _, _, rfl, rfl, toldL (d - 1) ds, toldS ((d - 1) % modOf ds) ds, A, E', us, d - 1, rfl, hA3, e3 _ _ g2, ?_, ?_, ?_, fun H4 b e4 hb => ?_⟩
      · have : (((d - 1) % modOf ds).toNat : Int) = (d - 1) % modOf ds := Int.toNat_of_nonneg hge
        rw [this] at g3
        exact g3.mono e3
      · unfold toldL toldS
        rw [runL_len, runS_len]
      · unfold toldL
        rw [runL_len]
        exact hl
      · have e4 : Same H3 H4 := e4
        refine ⟨_, rfl, ?_⟩
        cases b with
        | true =>
          refine iteT ⟨fun σ' H' => ∃ d' : Int, d' = d - 1 ∧ σ' = [some v, some (.ref D), some (.int d')] ∧ H' = H4, ?_, _, rfl, _, _, rfl, rfl, d - 1, rfl, rfl, rfl⟩
          rintro σ' H' ⟨d', rfl, rfl, rfl⟩
          refine ⟨_, ?_, rfl, d - 1, by omega, by omega, rfl, (e2.trans e3).trans e4, fun e h1 h2 => ?_⟩
          · show (d - 1).toNat < d.toNat
            omega
          · by_cases he : e = d - 1
            · subst he
              intro i a t ha ht
              exact hb rfl i a t ha ht
            · exact hrow e (by omega) h2
        | false => exact iteF ⟨_, rfl, k _ d (((e1.trans e2).trans e3).trans e4) d1 d2 hrow⟩
    · exact iteFd (decide_eq_false c1) ⟨_, rfl, k _ d (e1.trans e2) d1 d2 hrow⟩
end
end Rln
end
section
set_option Elab.async false
set_option linter.all false
set_option maxRecDepth 100000
set_option maxHeartbeats 4000000
namespace Rln
open PySem PySem.Spec PyProof.Rows L2
/-! ### primes -/
def primesOf (n : Int) : List Int := [2, 3, 5].filter fun q => decide (q ∣ n)
/-- below p nothing of m is left -/
def pdOk' (n p m : Int) : Prop := m ∈ D60 ∧ (p = 2 ∨ p = 3 ∨ p = 4 ∨ p = 5 ∨ p = 6) ∧ ∀ q ∈ ([2, 3, 5] : List Int), if q < p then ¬ q ∣ m else (q ∣ m ↔ q ∣ n)
def foundOf (n p : Int) : List Int := [2, 3, 5].filter fun q => decide (q < p) && decide (q ∣ n)
instance (n p m : Int) : Decidable (pdOk' n p m) := by unfold pdOk'; infer_instance
theorem D60_ne {m : Int} (h : m ∈ D60) : 1 ≤ m ∧ m ≤ 60 := ⟨(D60_bd m h).1, (D60_bd m h).2.1⟩
set_option maxRecDepth 1000000 in
theorem pd_step : ∀ n ∈ D60, ∀ m ∈ D60, ∀ p ∈ ([2, 3, 4, 5, 6] : List Int), pdOk' n p m →
    (m > 1 → p < 6) ∧ (m ≤ 1 → foundOf n p = primesOf n) ∧ (m > 1 → m % p ≠ 0 → pdOk' n (p + 1) m ∧ foundOf n (p + 1) = foundOf n p) ∧
    (m > 1 → m % p = 0 → (p = 2 ∨ p = 3 ∨ p = 5) ∧ foundOf n (p + 1) = foundOf n p ++ [p]) := by decide +kernel
set_option maxRecDepth 1000000 in
theorem pd_div : ∀ m ∈ D60, ∀ p ∈ ([2, 3, 5] : List Int), m % p = 0 → m / p ∈ D60 ∧ m / p < m ∧ ∀ q ∈ ([2, 3, 5] : List Int), q ≠ p → (q ∣ m / p ↔ q ∣ m) := by decide +kernel
theorem pd_mem {p : Int} (h : p = 2 ∨ p = 3 ∨ p = 4 ∨ p = 5 ∨ p = 6) : p ∈ ([2, 3, 4, 5, 6] : List Int) := by
  rcases h with rfl | rfl | rfl | rfl | rfl <;> decide
section
variable {P : Program} {w : World} {K : PySem.W.Frag} {mg : Str → Option Value} {base : Heap}
abbrev N_prime_divisors : List Str := ["number", "found", "prime"]
theorem sc_prime_divisors : FnScope N_prime_divisors ["number"] (defScope s_prime_divisors) := ⟨rfl, rfl, rfl, by decide +kernel, rfl, by decide +kernel, by decide +kernel⟩
def spPrimes : Sp := fun vs H Q _ => ∃ n : Int, vs = [.int n] ∧ n ∈ D60 ∧ ∀ H' D, Same H H' → H' D = some (.lst ((primesOf n).map V.int)) → Q (.ref D) H'
theorem cal_primes (T : Tx K mg) : Cal P w K mg base 1 "prime_divisors" spPrimes [] := by
  refine calD T.f_prime_divisors T.g_prime_divisors sc_prime_divisors (fun vs H Q E h => ?_) (fun _ _ _ _ _ _ us hl => match us, hl with | [_], _ => rfl) (fun cdv A outer s H vs Q E hr h => ?_)
  · obtain ⟨v, rfl, _⟩ := h
    rfl
  · obtain ⟨n, rfl, hn, k⟩ := h
    refine ⟨_, (pss_cons (ps_set (i := 1) sc_prime_divisors.nd rfl (Or.inl rfl) (pe_lst pa_nil))
      (pss_cons (ps_set (i := 2) sc_prime_divisors.nd rfl (Or.inl rfl) pe_int)
      (pss_cons (ps_while PassesOwn.never (pt_cmpR op_gt (pv 0) pe_int (nomark _)) (pss_cons (ps_if (pt_cmpR op_eq (pe_op op_mod (pv 0) (pv 2)) pe_int (nomark _)) (pss_cons (ps_expr (pe_bm PySem.F.plainAttrs_list PySem.F.slot_list_append PySem.F.type_list_append mt_append (pv 1) (pa_cons (pv 2) pa_nil)))
      (pss_one (ps_while PassesOwn.never (pt_cmpR op_eq (pe_op op_mod (pv 0) (pv 2)) pe_int (nomark _)) (pss_one (ps_set (i := 0) sc_prime_divisors.nd rfl (Or.inl rfl) (pe_op op_fdiv (pv 0) (pv 2))))))) pss_nil)
      (pss_one (ps_set (i := 2) sc_prime_divisors.nd rfl (Or.inl rfl) (pe_op op_add (pv 2) pe_int)))))
      (pss_one (ps_ret (pv 1)))))), ?_⟩
    refine ⟨by decide, fun D hD => ?_⟩
    refine while_to (fun σ' H' => ∃ m p, σ' = [some (.int m), some (.ref D), some (.int p)] ∧ pdOk' n p m ∧ Sx D H H' ∧ H' D = some (.lst ((foundOf n p).map V.int)))
      (fun σ' _ => match σ' with | [_, _, some (.int y)] => (7 - y).toNat | _ => 0) ⟨n, 2, rfl, ⟨hn, .inl rfl, fun q hq => ?_⟩, fun b u ne e => by rw [upd_ne ne]; exact e, ?_⟩ ?_
    · have : ¬ q < 2 := by
        revert q
        decide
      rw [if_neg this]
    · have : foundOf n 2 = [] := by unfold foundOf; simp
      rw [this]
      exact upd_same
    · rintro σ' H1 ⟨m, p, rfl, ok, e1, hl1⟩
      obtain ⟨hm, hp, hq⟩ := id ok
      obtain ⟨s1, s2, s3, s4⟩ := pd_step n hn m hm p (pd_mem hp) ok
      have hp2 : 2 ≤ p ∧ p ≤ 6 := by omega
      refine ⟨_, rfl, _, _, rfl, rfl, _, rfl, ?_⟩
      by_cases c1 : m > 1
      · refine iteTd (decide_eq_true c1) ⟨fun σ' H' => (∃ m p', p' = p + 1 ∧ σ' = [some (.int m), some (.ref D), some (.int p')] ∧ pdOk' n p' m ∧ Sx D H H' ∧ H' D = some (.lst ((foundOf n p').map V.int))), ?_, ?_⟩
        · rintro σ' H' ⟨m', p', rfl, rfl, h1, h2, h3⟩
          refine ⟨_, ?_, rfl, m', p + 1, rfl, h1, h2, h3⟩
          show (7 - (p + 1)).toNat < (7 - p).toNat
          have := s1 c1
          omega
        · refine ⟨_, rfl, _, rfl, _, _, rfl, rfl, by show (0 : Int) < p; omega, rfl, _, rfl, ?_⟩
          by_cases c2 : m % p = 0
          · obtain ⟨g1, g2⟩ := s4 c1 c2
            refine iteTd (decide_eq_true (congrArg V.int c2)) ⟨_, rfl, .inl ⟨rfl, _, SqL.of hl1⟩, _, rfl, D, _, _, rfl, rfl, hl1, ?_, ?_⟩
            · rw [List.length_map, sizeLine_eq]
              have : (foundOf n p).length ≤ 3 := List.length_filter_le ..
              omega
            have hl2 : upd H1 D (.lst ((foundOf n p).map V.int ++ [.int p])) D = some (.lst ((foundOf n (p + 1)).map V.int)) := by
              rw [upd_same, g2, List.map_append]
              rfl
            have e2 : Sx D H (upd H1 D (.lst ((foundOf n p).map V.int ++ [.int p]))) := e1.put
            generalize upd H1 D (.lst ((foundOf n p).map V.int ++ [.int p])) = H2 at hl2 e2
            have hp3 : p ∈ ([2, 3, 5] : List Int) := by rcases g1 with rfl | rfl | rfl <;> decide
            refine while_to (fun σ' H' => H' = H2 ∧ ∃ m', σ' = [some (.int m'), some (.ref D), some (.int p)] ∧ m' ∈ D60 ∧ ∀ q ∈ ([2, 3, 5] : List Int), q ≠ p → (q ∣ m' ↔ q ∣ m))
              (fun σ' _ => match σ' with | [some (.int y), _, _] => y.toNat | _ => 0) ⟨rfl, m, rfl, hm, fun q _ _ => Iff.rfl⟩ ?_
            rintro σ' H' ⟨eH, m', rfl, hm', hq'⟩
            have eH2 : H2 = H' := eH.symm
            subst eH2
            have mb := D60_ne hm'
            refine ⟨_, rfl, _, rfl, _, _, rfl, rfl, by show (0 : Int) < p; omega, rfl, _, rfl, ?_⟩
            by_cases c3 : m' % p = 0
            · obtain ⟨d1, d2, d3⟩ := pd_div m' hm' p hp3 c3
              refine iteTd (decide_eq_true (congrArg V.int c3)) ⟨fun σ' H' => H' = H2 ∧ σ' = [some (.int (m' / p)), some (.ref D), some (.int p)], ?_, _, rfl, _, rfl, _, _, rfl, rfl, ⟨by omega, by omega⟩, rfl, rfl⟩
              rintro σ' H' ⟨rfl, rfl⟩
              refine ⟨_, ?_, rfl, rfl, m' / p, rfl, d1, fun q hq hne => (d3 q hq hne).trans (hq' q hq hne)⟩
              show (m' / p).toNat < m'.toNat
              have := D60_ne d1
              omega
            · refine iteFd (dec_ne fun z => c3 (V.int.inj z)) ⟨_, rfl, _, _, rfl, rfl, m', p + 1, rfl, rfl, ⟨hm', by omega, fun q hq2 => ?_⟩, e2, hl2⟩
              have hqm := hq q hq2
              by_cases e : q = p
              · subst e
                rw [if_pos (by omega)]
                exact fun z => c3 (Int.emod_eq_zero_of_dvd z)
              · by_cases l : q < p
                · rw [if_pos l] at hqm
                  rw [if_pos (by omega)]
                  exact fun z => hqm ((hq' q hq2 e).mp z)
                · rw [if_neg l] at hqm
                  rw [if_neg (by omega)]
                  exact (hq' q hq2 e).trans hqm
          · obtain ⟨g1, g2⟩ := s3 c1 c2
            exact iteFd (dec_ne fun z => c2 (V.int.inj z)) ⟨_, rfl, _, _, rfl, rfl, m, p + 1, rfl, rfl, g1, e1, by rw [g2]; exact hl1⟩
      · refine iteFd (decide_eq_false c1) ⟨_, rfl, k H1 D (fun b u e => e1 b u (ne_of_none e hD) e) ?_⟩
        rw [← s2 (by omega)]
        exact hl1
end
end Rln
end
section
set_option Elab.async false
set_option linter.all false
set_option maxRecDepth 100000
set_option maxHeartbeats 4000000
namespace Rln
open PySem PySem.Spec PyProof.Rows L2
/-! ### periods -/
def PL (fl : List Bool) (x : Nat) : Prop := ∀ i, i + x < fl.length → fl[i + x]? = fl[i]?
theorem sIx_nat (n d i : Nat) (h : i ≤ n) : HT.sIx n d (some (i : Int)) = i := by
  unfold HT.sIx
  simp only []
  rw [if_neg (by omega)]
  simp
  omega
theorem cut_drop (xs : List V) (i : Nat) (h : i ≤ xs.length) : cutV xs (some (i : Int)) none = xs.drop i := by
  unfold cutV
  rw [sIx_nat _ _ _ h]
  show (xs.drop i).take (xs.length - i) = xs.drop i
  rw [List.take_of_length_le (by rw [List.length_drop]; omega)]
theorem cut_take (xs : List V) (i : Nat) (h : i ≤ xs.length) : cutV xs none (some (i : Int)) = xs.take i := by
  unfold cutV
  rw [sIx_nat _ _ _ h]
  show (xs.drop 0).take (i - 0) = xs.take i
  rw [List.drop_zero, Nat.sub_zero]
theorem PL_iff {fl : List Bool} {x : Nat} (h : x ≤ fl.length) : fl.drop x = fl.take (fl.length - x) ↔ PL fl x := by
  constructor
  · intro e i hi
    have e2 : (fl.drop x)[i]? = (fl.take (fl.length - x))[i]? := by rw [e]
    rw [List.getElem?_drop, List.getElem?_take, if_pos (by omega)] at e2
    rw [Nat.add_comm]
    exact e2
  · intro p
    apply List.ext_getElem?
    intro i
    rw [List.getElem?_drop, List.getElem?_take]
    by_cases hi : i < fl.length - x
    · rw [if_pos hi, Nat.add_comm]
      exact p i (by omega)
    · rw [if_neg hi]
      exact List.getElem?_eq_none (by omega)
theorem PL_mul {fl : List Bool} {x : Nat} (p : PL fl x) : ∀ k, PL fl (x * k)
  | 0 => fun i _ => rfl
  | k + 1 => fun i hi => by
    rw [Nat.mul_succ] at hi
    have h1 := p (i + x * k) (by omega)
    have h2 := PL_mul p k i (by omega)
    rw [Nat.mul_succ, ← Nat.add_assoc, h1, h2]
theorem PL_len (fl : List Bool) : PL fl fl.length := fun i hi => absurd hi (by omega)
/-- p is the period that is found -/
structure LP (fl : List Bool) (p : Int) : Prop where
  d : p ∈ D60
  dv : p ∣ fl.length
  per : PL fl p.toNat
  least : ∀ q ∈ ([2, 3, 5] : List Int), q ∣ p → ¬ PL fl (p / q).toNat
theorem bools_dp {K : PySem.W.Frag} {H : Hp} : ∀ bs : List Bool, DpAll K H (bs.map V.bl) (bs.map PyData.bool)
  | [] => .nil
  | b :: bs => .cons (.bl b) (bools_dp bs)
theorem bools_ok : ∀ bs : List Bool, PyData.canLayAll0 (bs.map PyData.bool) = true ∧ PyData.depthAll (bs.map PyData.bool) = 0
  | [] => ⟨by simp [PyData.canLayAll0], by simp [PyData.depthAll]⟩
  | b :: bs => by
    have := bools_ok bs
    exact ⟨by simp [PyData.canLayAll0, PyData.canLay0, this.1], by simp [PyData.depthAll, PyData.depth, this.2]⟩
theorem bools_eqv : ∀ a b : List Bool, PyData.eqvAll (a.map PyData.bool) (b.map PyData.bool) = decide (a = b)
  | [], [] => by simp [PyData.eqvAll]
  | [], b :: bs => by simp [PyData.eqvAll]
  | a :: as, [] => by simp [PyData.eqvAll]
  | a :: as, b :: bs => by
    rw [List.map_cons, List.map_cons, PyData.eqvAll, bools_eqv as bs, Bool.eq_iff_iff]
    simp [PyData.eqv]
theorem bools_shaped (bs : List Bool) : SeqAt.shaped (.list (bs.map PyData.bool)) = true := by
  have := bools_ok bs
  unfold SeqAt.shaped
  rw [Bool.and_eq_true]
  exact ⟨by simp [PyData.canLay0, this.1], by simp [PyData.depth, this.2]⟩
section
variable {P : Program} {w : World} {K : PySem.W.Frag} {mg : Str → Option Value} {base : Heap}
abbrev N_is_periodic : List Str := ["flags", "period"]
theorem sc_is_periodic : FnScope N_is_periodic ["flags", "period"] (defScope s_is_periodic) := ⟨rfl, rfl, rfl, by decide +kernel, rfl, by decide +kernel, by decide +kernel⟩
def spPer : Sp := fun vs H Q _ => ∃ (A : Addr) (fl : List Bool) (x : Nat), vs = [.ref A, .int x] ∧ H A = some (.lst (fl.map V.bl)) ∧ x ≤ fl.length ∧ ∀ H' b, Same H H' → (b = true ↔ PL fl x) → Q (.bl b) H'
theorem cal_is_periodic (T : Tx K mg) : Cal P w K mg base 1 "is_periodic" spPer [] := by
  refine calD T.f_is_periodic T.g_is_periodic sc_is_periodic (fun vs H Q E h => ?_) (fun _ _ _ _ _ _ us hl => match us, hl with | [_, _], _ => rfl) (fun cdv A outer s H vs Q E hr h => ?_)
  · obtain ⟨v, _, _, rfl, _⟩ := h
    rfl
  · obtain ⟨A0, fl, x, rfl, hA, hx, k⟩ := h
    refine ⟨_, (pss_one (ps_ret (pe_cmpR (op_eqD hr.units) (pe_slice sl_list (pv 0) (po_some (pv 1)) po_none) (pe_slice sl_list (pv 0) po_none (po_some (pe_op op_sub (pe_callB call_len_seq (by rfl) T.n_len PySem.boot_len (pa_cons (pv 0) pa_nil)) (pv 1)))) (nomark _)))), ?_⟩
    have hl : (fl.map V.bl).length = fl.length := List.length_map ..
    refine ⟨_, rfl, _, rfl, _, rfl, A0, _, rfl, SqL.of hA, fun p hp => ?_⟩
    rw [cut_drop _ _ (by rw [hl]; exact hx)]
    have e1 : Same H (upd H p (.lst ((fl.map V.bl).drop x))) := Same.new hp
    have hp1 : upd H p (.lst ((fl.map V.bl).drop x)) p = some (.lst ((fl.map V.bl).drop x)) := upd_same
    generalize upd H p (.lst ((fl.map V.bl).drop x)) = H1 at e1 hp1
    have hA1 := e1 _ _ hA
    refine ⟨_, rfl, _, rfl, A0, _, rfl, .inl (SqL.of hA1), _, rfl, _, _, rfl, rfl, _, rfl, A0, _, rfl, SqL.of hA1, fun p2 hp2 => ?_⟩
    have ec : cutV (fl.map V.bl) none (some (((fl.map V.bl).length : Int) - x)) = (fl.map V.bl).take (fl.length - x) := by
      have : (((fl.map V.bl).length : Int) - x) = ((fl.length - x : Nat) : Int) := by rw [hl]; omega
      rw [this, cut_take _ _ (by rw [hl]; omega)]
    rw [ec]
    have e2 : Same H1 (upd H1 p2 (.lst ((fl.map V.bl).take (fl.length - x)))) := Same.new hp2
    have hp3 := e2 _ _ hp1
    refine ⟨.list ((fl.drop x).map .bool), .list ((fl.take (fl.length - x)).map .bool), .lst (SqL.of hp3) ?_, .lst (SqL.of upd_same) ?_, bools_shaped _, bools_shaped _, ?_⟩
    · rw [← List.map_drop]
      exact bools_dp _
    · rw [← List.map_take]
      exact bools_dp _
    · refine k _ _ (e1.trans e2) ?_
      have e3 : PyData.eqv (.list ((fl.drop x).map .bool)) (.list ((fl.take (fl.length - x)).map .bool)) = decide (fl.drop x = fl.take (fl.length - x)) := by
        rw [PyData.eqv]
        exact bools_eqv _ _
      rw [e3, decide_eq_true_eq]
      exact PL_iff hx
abbrev N_least_period : List Str := ["flags", "period", "prime"]
theorem sc_least_period : FnScope N_least_period ["flags"] (defScope s_least_period) := ⟨rfl, rfl, rfl, by decide +kernel, rfl, by decide +kernel, by decide +kernel⟩
def spLeast : Sp := fun vs H Q _ => ∃ (A : Addr) (fl : List Bool), vs = [.ref A] ∧ H A = some (.lst (fl.map V.bl)) ∧ (fl.length : Int) ∈ D60 ∧ ∀ H' p, Same H H' → LP fl p → Q (.int p) H'
theorem cal_least_period (T : Tx K mg) : Cal P w K mg base 2 "least_period" spLeast [] := by
  refine calD T.f_least_period T.g_least_period sc_least_period (fun vs H Q E h => ?_) (fun _ _ _ _ _ _ us hl => match us, hl with | [_], _ => rfl) (fun cdv A outer s H vs Q E hr h => ?_)
  · obtain ⟨v, _, rfl, _⟩ := h
    rfl
  · obtain ⟨A0, fl, rfl, hA, hd, k⟩ := h
    refine ⟨_, (pss_cons (ps_set (i := 1) sc_least_period.nd rfl (Or.inl rfl) (pe_callB call_len_seq (by rfl) T.n_len PySem.boot_len (pa_cons (pv 0) pa_nil)))
      (pss_cons (ps_for PassesOwn.never rfl (pi_list (C8.pe_c (cal_primes T) hr (by decide) (by rfl) (pa_cons (pe_callB call_len_seq (by rfl) T.n_len PySem.boot_len (pa_cons (pv 0) pa_nil)) pa_nil))) (pg_name (i := 2) sc_least_period.nd rfl (Or.inl rfl)) (pss_one (ps_while PassesOwn.never (PW.pt (pw_and (pt_cmpR op_eq (pe_op op_mod (pv 1) (pv 2)) pe_int (nomark _)) (pw_and1 (pt_val (C8.pe_c (cal_is_periodic T) hr (by decide) (by rfl) (pa_cons (pv 0) (pa_cons (pe_op op_fdiv (pv 1) (pv 2)) pa_nil))))))) (pss_one (ps_set (i := 1) sc_least_period.nd rfl (Or.inl rfl) (pe_op op_fdiv (pv 1) (pv 2)))))))
      (pss_one (ps_ret (pv 1))))), ?_⟩
    have hl : (fl.map V.bl).length = fl.length := List.length_map ..
    refine ⟨_, rfl, A0, _, rfl, .inl (SqL.of hA), _, rfl, A0, _, rfl, .inl (SqL.of hA), ?_⟩
    rw [hl]
    refine ⟨_, rfl, hd, fun H1 D e1 hD1 => ?_⟩
    have e1 : Same H H1 := e1
    have hA1 := e1 _ _ hA
    refine ⟨D, rfl, ⟨_, SqL.of hD1⟩, for_it (walk_list (xs := (primesOf fl.length).map V.int)) (fun i σ' H' => Same H1 H' ∧ ∃ p x, σ' = [some (.ref A0), some (.int p), x] ∧ p ∈ D60 ∧ p ∣ fl.length ∧ PL fl p.toNat ∧ ∀ q ∈ (primesOf fl.length).take i, q ∣ p → ¬ PL fl (p / q).toNat) ?_ ?_ ?_ ?_⟩
    · refine ⟨fun _ _ e => e, _, none, rfl, hd, Int.dvd_refl _, ?_, fun q hq => by simp at hq⟩
      rw [Int.toNat_natCast]
      exact PL_len fl
    · rintro i σ' H2 _ ⟨e2, _⟩
      exact SqL.of (e2 _ _ hD1)
    · rintro i x σ' H2 H3 hi ⟨e2, p, y, rfl, hp, hdv, hper, hold⟩ ⟨eH, hx⟩
      have eH2 : H2 = H3 := eH.symm
      subst eH2
      have hi' : i < (primesOf fl.length).length := by rw [List.length_map] at hi; exact hi
      rw [List.getElem?_map, List.getElem?_eq_getElem hi'] at hx
      cases hx
      have hr3 : (primesOf fl.length)[i] ∈ ([2, 3, 5] : List Int) := (List.mem_filter.mp (List.getElem_mem hi')).1
      have htk : (primesOf fl.length).take (i + 1) = (primesOf fl.length).take i ++ [(primesOf fl.length)[i]] := List.take_succ_eq_append_getElem hi'
      generalize (primesOf fl.length)[i] = r at hr3 htk
      have hr2 : 2 ≤ r ∧ r ≤ 5 := by
        revert hr3
        simp only [List.mem_cons, List.not_mem_nil, or_false]
        omega
      refine while_to (fun σ' H' => Same H1 H' ∧ ∃ p, σ' = [some (.ref A0), some (.int p), some (.int r)] ∧ p ∈ D60 ∧ p ∣ fl.length ∧ PL fl p.toNat ∧ ∀ q ∈ (primesOf fl.length).take i, q ∣ p → ¬ PL fl (p / q).toNat)
        (fun σ' _ => match σ' with | [_, some (.int y), _] => y.toNat | _ => 0) ⟨e2, p, rfl, hp, hdv, hper, hold⟩ ?_
      rintro σ' H4 ⟨e4, p, rfl, hp, hdv, hper, hold⟩
      have pb := D60_ne hp
      have ple : p ≤ fl.length := Int.le_of_dvd (by have := D60_ne hd; omega) hdv
      refine ⟨_, rfl, _, rfl, _, _, rfl, rfl, by show (0 : Int) < r; omega, rfl, _, rfl, ?_⟩
      by_cases c1 : p % r = 0
      · have rdv : r ∣ p := Int.dvd_of_emod_eq_zero c1
        obtain ⟨d1, d2, _⟩ := pd_div p hp r hr3 c1
        have d1b := D60_ne d1
        have ept : ((p / r).toNat : Int) = p / r := Int.toNat_of_nonneg (by omega)
        refine iteTd (decide_eq_true (congrArg V.int c1)) ⟨_, rfl, _, rfl, _, rfl, _, _, rfl, rfl, ⟨by omega, by omega⟩, A0, fl, (p / r).toNat, by rw [ept]; rfl, e4 _ _ hA1, by omega, fun H5 b e5 hb => ⟨_, rfl, ?_⟩⟩
        have e5 : Same H4 H5 := e5
        cases b with
        | true =>
          have hPL := hb.mp rfl
          refine iteT ⟨fun σ' H' => σ' = [some (.ref A0), some (.int (p / r)), some (.int r)] ∧ H' = H5, ?_, _, rfl, _, rfl, _, _, rfl, rfl, ⟨by omega, by omega⟩, rfl, rfl⟩
          rintro σ' H' ⟨rfl, rfl⟩
          refine ⟨_, ?_, rfl, e4.trans e5, p / r, rfl, d1, Int.dvd_trans ⟨r, (Int.ediv_mul_cancel rdv).symm⟩ hdv, hPL, fun q hq hqd hq2 => ?_⟩
          · show (p / r).toNat < p.toNat
            omega
          · have hq3 : q ∈ ([2, 3, 5] : List Int) := (List.mem_filter.mp (List.mem_of_mem_take hq)).1
            have qb : 2 ≤ q ∧ q ≤ 5 := by
              revert hq3
              simp only [List.mem_cons, List.not_mem_nil, or_false]
              omega
            refine hold q hq (Int.dvd_trans hqd ⟨r, (Int.ediv_mul_cancel rdv).symm⟩) ?_
            have e : p / q = (p / r / q) * r := by
              obtain ⟨c, hc⟩ := hqd
              obtain ⟨d, hd'⟩ := rdv
              have h1 : p / r = d := by rw [hd']; exact Int.mul_ediv_cancel_left _ (by omega)
              rw [h1] at hc ⊢
              rw [hc, Int.mul_ediv_cancel_left _ (by omega), hd', hc, show r * (q * c) = q * (c * r) by rw [Int.mul_comm r, Int.mul_assoc], Int.mul_ediv_cancel_left _ (by omega)]
            have e2 : (p / q).toNat = (p / r / q).toNat * r.toNat := by
              rw [e]
              have h0 : 0 ≤ p / r / q := Int.ediv_nonneg (by omega) (by omega)
              have : ((p / r / q).toNat * r.toNat : Nat) = ((p / r / q) * r).toNat := by
                apply Int.ofNat.inj
                show ((_ : Nat) : Int) = ((_ : Nat) : Int)
                rw [Int.natCast_mul, Int.toNat_of_nonneg h0, Int.toNat_of_nonneg (by omega), Int.toNat_of_nonneg (Int.mul_nonneg h0 (by omega))]
              exact this.symm
            rw [e2]
            exact PL_mul hq2 _
        | false =>
          refine iteF ⟨e4.trans e5, p, some (.int r), rfl, hp, hdv, hper, fun q hq => ?_⟩
          rw [htk] at hq
          rcases List.mem_append.mp hq with hq | hq
          · exact hold q hq
          · have : q = r := by simpa using hq
            subst this
            exact fun _ z => Bool.false_ne_true (hb.mpr z)
      · refine iteFd (dec_ne fun z => c1 (V.int.inj z)) ⟨e4, p, some (.int r), rfl, hp, hdv, hper, fun q hq => ?_⟩
        rw [htk] at hq
        rcases List.mem_append.mp hq with hq | hq
        · exact hold q hq
        · have : q = r := by simpa using hq
          subst this
          exact fun z => absurd (Int.emod_eq_zero_of_dvd z) c1
    · rintro σ' H2 ⟨e2, p, y, rfl, hp, hdv, hper, hold⟩
      refine ⟨_, rfl, k _ p (e1.trans e2) ⟨hp, hdv, hper, fun q hq hqd => ?_⟩⟩
      refine hold q ?_ hqd
      rw [List.length_map, List.take_length]
      exact List.mem_filter.mpr ⟨hq, decide_eq_true (Int.dvd_trans hqd hdv)⟩
abbrev N_sums_of : List Str := ["flags", "found", "place"]
theorem sc_sums_of : FnScope N_sums_of ["flags"] (defScope s_sums_of) := ⟨rfl, rfl, rfl, by decide +kernel, rfl, by decide +kernel, by decide +kernel⟩
def spSums : Sp := fun vs H Q _ => ∃ (A : Addr) (fl : List Bool), vs = [.ref A] ∧ H A = some (.lst (fl.map V.bl)) ∧ 1 ≤ fl.length ∧ fl.length ≤ 100 ∧ ∀ H' C, Same H H' → Q (.ref C) H'
theorem cal_sums_of (T : Tx K mg) : Cal P w K mg base 1 "sums_of" spSums [] := by
  refine calD T.f_sums_of T.g_sums_of sc_sums_of (fun vs H Q E h => ?_) (fun _ _ _ _ _ _ us hl => match us, hl with | [_], _ => rfl) (fun cdv A outer s H vs Q E hr h => ?_)
  · obtain ⟨v, _, rfl, _⟩ := h
    rfl
  · obtain ⟨A0, fl, rfl, hA, l1, l2, k⟩ := h
    refine ⟨_, (pss_cons (ps_set (i := 1) sc_sums_of.nd rfl (Or.inl rfl) (pe_lst (pa_cons pe_int pa_nil)))
      (pss_cons (ps_for PassesOwn.never rfl (pi_range2 (by rfl) T.n_range (pa_cons pe_int (pa_cons (pe_op op_add (pe_callB call_len_seq (by rfl) T.n_len PySem.boot_len (pa_cons (pv 0) pa_nil)) pe_int) pa_nil))) (pg_name (i := 2) sc_sums_of.nd rfl (Or.inl rfl)) (pss_one (ps_expr (pe_bm PySem.F.plainAttrs_list PySem.F.slot_list_append PySem.F.type_list_append mt_append (pv 1) (pa_cons (pe_op op_add (pe_ix ix_list (pv 1) (pe_un un_neg pe_int) (fun _ _ => rfl)) (pe_callTy call_int1 (by rfl) T.n_int boot_int (pa_cons (pe_ix ix_list (pv 0) (pe_op op_mod (pv 2) (pe_callB call_len_seq (by rfl) T.n_len PySem.boot_len (pa_cons (pv 0) pa_nil))) (fun _ _ => rfl)) pa_nil))) pa_nil)))))
      (pss_one (ps_ret (pv 1))))), ?_⟩
    have hl : (fl.map V.bl).length = fl.length := List.length_map ..
    refine ⟨by decide, fun D hD => ?_⟩
    have nAD : A0 ≠ D := ne_of_none hA hD
    have hA1 : upd H D (.lst [.int 0]) A0 = some (.lst (fl.map V.bl)) := by rw [upd_ne nAD]; exact hA
    refine ⟨_, rfl, A0, _, rfl, .inl (SqL.of hA1), _, _, rfl, rfl, 1, _, rfl, ⟨by decide, by decide, by rw [hl]; omega, by rw [hl]; omega⟩, ?_⟩
    rw [hl]
    refine for_it walk_range (fun i σ' H' => Sx D H H' ∧ (∃ x, σ' = [some (.ref A0), some (.ref D), x]) ∧ ∃ ns : List Int, ns.length = i + 1 ∧ H' D = some (.lst (ns.map V.int))) ?_ (fun _ _ _ _ _ => trivial) ?_ ?_
    · exact ⟨fun b u n e => by rw [upd_ne n]; exact e, ⟨_, rfl⟩, [0], rfl, upd_same⟩
    · rintro i x σ' H1 H2 hi ⟨e1, ⟨y, rfl⟩, ns, ln, hn⟩ ⟨eH, rfl⟩
      have eH2 : H1 = H2 := eH.symm
      subst eH2
      have hA2 := e1 _ _ nAD hA
      obtain ⟨z, hz⟩ : ∃ z, ns[i]? = some z := ⟨ns[i], List.getElem?_eq_getElem (by omega)⟩
      have hlast : atI (ns.map V.int) (-1) = some (.int z) := by
        have e : ixN (ns.map V.int).length (-1) = some i := by
          unfold ixN
          rw [List.length_map, ln]
          simp
          omega
        unfold atI
        rw [e]
        show (ns.map V.int)[i]? = some (.int z)
        rw [List.getElem?_map, hz]
        rfl
      have hm0 : 0 ≤ ((1 : Int) + i) % (fl.length : Int) := Int.emod_nonneg _ (by omega)
      have hm1 : ((1 : Int) + i) % (fl.length : Int) < fl.length := Int.emod_lt_of_pos _ (by omega)
      obtain ⟨b, hb⟩ : ∃ b, atI (fl.map V.bl) (((1 : Int) + i) % (fl.length : Int)) = some (.bl b) := by
        have h1 : (((1 : Int) + i) % (fl.length : Int)).toNat < fl.length := by omega
        have h2 := atI_nat (xs := fl.map V.bl) (j := (((1 : Int) + i) % (fl.length : Int)).toNat) (by rw [List.getElem?_map, List.getElem?_eq_getElem h1]; rfl)
        rw [Int.toNat_of_nonneg hm0] at h2
        exact ⟨_, h2⟩
      refine ⟨_, rfl, .inl ⟨rfl, _, SqL.of hn⟩, _, rfl, _, rfl, D, _, _, _, rfl, rfl, SqL.of hn, hlast, ?_⟩
      refine ⟨_, rfl, _, rfl, _, rfl, A0, _, rfl, .inl (SqL.of hA2), _, _, rfl, rfl, by show (0 : Int) < ((fl.map V.bl).length : Nat); rw [hl]; omega, A0, _, _, _, rfl, rfl, SqL.of hA2, ?_, .inr ⟨b, rfl, _, _, rfl, rfl, D, _, _, rfl, rfl, hn, ?_, ?_⟩⟩
      · show atI (fl.map V.bl) ((1 + (i : Int)) % (((fl.map V.bl).length : Nat) : Int)) = _
        rw [hl]
        exact hb
      · rw [List.length_map, sizeLine_eq]
        have : i < fl.length := by omega
        omega
      · refine ⟨e1.put, ⟨_, rfl⟩, ns ++ [z + (if b = true then 1 else 0)], by rw [List.length_append, ln]; rfl, ?_⟩
        rw [upd_same, List.map_append]
        rfl
    · rintro σ' H1 ⟨e1, ⟨y, rfl⟩, ns, ln, hn⟩
      exact ⟨_, rfl, k H1 D fun b u e => e1 b u (ne_of_none e hD) e⟩
end
end Rln
end
section
set_option Elab.async false
set_option linter.all false
set_option maxRecDepth 100000
set_option maxHeartbeats 4000000
namespace Rln
open PySem PySem.Spec PyProof.Rows L2
/-! ### sets of distances: flags by remainder, flipped ones -/
def flagAt (fl : List Bool) (d : Int) : Bool := fl.getD (d % (fl.length : Int)).toNat false
def memR (fl : List Bool) (fx : List Int) (d : Int) : Bool := flagAt fl d != decide (d ∈ fx)
structure CanF (fl : List Bool) : Prop where
  d : (fl.length : Int) ∈ D60
  least : ∀ q ∈ ([2, 3, 5] : List Int), q ∣ (fl.length : Int) → ¬ PL fl ((fl.length : Int) / q).toNat
structure CanX (fx : List Int) : Prop where
  asc : fx.Pairwise (· < ·)
  bd : ∀ d ∈ fx, 1 ≤ d ∧ d ≤ 60
theorem flagAt_nat {fl : List Bool} {i : Nat} (h : i < fl.length) : flagAt fl i = fl[i] := by
  unfold flagAt
  have : ((i : Int) % (fl.length : Int)).toNat = i := by
    rw [Int.emod_eq_of_lt (by omega) (by omega)]
    omega
  rw [this, List.getD_eq_getElem?_getD, List.getElem?_eq_getElem h]
  rfl
theorem flagAt_per {fl : List Bool} {d e : Int} (h : (fl.length : Int) ∣ d - e) : flagAt fl d = flagAt fl e := by
  unfold flagAt
  rw [Int.emod_eq_emod_iff_emod_sub_eq_zero.mpr (Int.emod_eq_zero_of_dvd h)]
theorem PL_mod {fl : List Bool} {x : Nat} (hx : 0 < x) (p : PL fl x) : ∀ j, j < fl.length → fl[j]? = fl[j % x]? := by
  intro j
  induction j using Nat.strongRecOn with
  | _ j ih =>
    intro hj
    by_cases c : j < x
    · rw [Nat.mod_eq_of_lt c]
    · have h1 := p (j - x) (by omega)
      rw [Nat.sub_add_cancel (by omega)] at h1
      rw [h1, ih (j - x) (by omega) (by omega), Nat.mod_eq_sub_mod (show j ≥ x by omega)]
theorem take_len {fl : List Bool} {p : Int} (h : LP fl p) (l0 : 1 ≤ fl.length) : (((fl.take p.toNat).length : Nat) : Int) = p := by
  have h1 := D60_ne h.d
  have h2 : p ≤ fl.length := Int.le_of_dvd (by omega) h.dv
  rw [List.length_take]
  omega
theorem take_flag {fl : List Bool} {p : Int} (h : LP fl p) (l0 : 1 ≤ fl.length) (d : Int) : flagAt (fl.take p.toNat) d = flagAt fl d := by
  have h1 := D60_ne h.d
  have h2 : p ≤ fl.length := Int.le_of_dvd (by omega) h.dv
  unfold flagAt
  rw [take_len h l0]
  have a0 : 0 ≤ d % p := Int.emod_nonneg _ (by omega)
  have a1 : d % p < p := Int.emod_lt_of_pos _ (by omega)
  have b0 : 0 ≤ d % (fl.length : Int) := Int.emod_nonneg _ (by omega)
  have b1 : d % (fl.length : Int) < fl.length := Int.emod_lt_of_pos _ (by omega)
  rw [List.getD_eq_getElem?_getD, List.getD_eq_getElem?_getD, List.getElem?_take, if_pos (by omega), PL_mod (by omega) h.per (d % (fl.length : Int)).toNat (by omega)]
  congr 2
  have e : (d % (fl.length : Int)) % p = d % p := Int.emod_emod_of_dvd d h.dv
  have : (((d % (fl.length : Int)).toNat % p.toNat : Nat) : Int) = d % p := by
    rw [Int.natCast_emod, Int.toNat_of_nonneg b0, Int.toNat_of_nonneg (by omega), e]
  omega
theorem take_can {fl : List Bool} {p : Int} (h : LP fl p) (l0 : 1 ≤ fl.length) : CanF (fl.take p.toNat) := by
  have h1 := D60_ne h.d
  have h2 : p ≤ fl.length := Int.le_of_dvd (by omega) h.dv
  have hl := take_len h l0
  refine ⟨by rw [hl]; exact h.d, fun q hq hqd hP => ?_⟩
  rw [hl] at hqd hP
  refine h.least q hq hqd ?_
  have qb : 2 ≤ q ∧ q ≤ 5 := by
    revert hq
    simp only [List.mem_cons, List.not_mem_nil, or_false]
    omega
  obtain ⟨c, hc⟩ := hqd
  have e1 : p / q = c := by rw [hc]; exact Int.mul_ediv_cancel_left _ (by omega)
  rw [e1] at hP ⊢
  have c1 : 1 ≤ c := by
    rcases Int.lt_or_le 0 c with z | z
    · omega
    · have : q * c ≤ q * 0 := Int.mul_le_mul_of_nonneg_left z (by omega)
      omega
  have hdv : c.toNat ∣ p.toNat := ⟨q.toNat, by
    apply Int.ofNat.inj
    show ((_ : Nat) : Int) = ((_ : Nat) : Int)
    rw [Int.natCast_mul, Int.toNat_of_nonneg (by omega), Int.toNat_of_nonneg (by omega), Int.toNat_of_nonneg (by omega), hc, Int.mul_comm]⟩
  have key : ∀ j, j < fl.length → fl[j]? = (fl.take p.toNat)[j % c.toNat]? := fun j hj => by
    rw [PL_mod (by omega) h.per j hj]
    have hlt : j % p.toNat < p.toNat := Nat.mod_lt _ (by omega)
    have e2 : fl[j % p.toNat]? = (fl.take p.toNat)[j % p.toNat]? := by rw [List.getElem?_take, if_pos hlt]
    rw [e2, PL_mod (by omega) hP (j % p.toNat) (by rw [List.length_take]; omega), Nat.mod_mod_of_dvd _ hdv]
  intro i hi
  rw [key (i + c.toNat) hi, key i (by omega), Nat.add_mod_right]
/-! ### one set, one form -/
theorem bez : ∀ i ∈ D60, ∀ j ∈ D60, ∃ a ∈ List.range 61, ((a : Int) * i - (Int.gcd i j : Nat)) % j = 0 := by decide +kernel
theorem gcd_D60 : ∀ i ∈ D60, ∀ j ∈ D60, ((Int.gcd i j : Nat) : Int) ∈ D60 := by decide +kernel
theorem low_pr : ∀ i ∈ D60, ∀ g ∈ D60, g ∣ i → g ≠ i → ∃ q ∈ ([2, 3, 5] : List Int), q ∣ i ∧ g ∣ i / q ∧ 0 ≤ i / q := by decide +kernel
theorem per_mul {F : Int → Bool} {g : Int} (h : ∀ d, F (d + g) = F d) : ∀ (k : Nat) d, F (d + g * k) = F d
  | 0, d => by simp
  | k + 1, d => by
    have := per_mul h k d
    rw [← this, ← h (d + g * k)]
    congr 1
    rw [Int.natCast_add, Int.mul_add]
    omega
theorem per_dvd {F : Int → Bool} {g : Int} (h : ∀ d, F (d + g) = F d) {d e : Int} (hd : g ∣ d - e) : F d = F e := by
  obtain ⟨k, hk⟩ := hd
  have e1 : d = e + g * k := by omega
  rcases Int.le_total 0 k with z | z
  · have := per_mul h k.toNat e
    rw [Int.toNat_of_nonneg z] at this
    rw [e1]
    exact this
  · have := per_mul h (-k).toNat d
    rw [Int.toNat_of_nonneg (by omega)] at this
    rw [← this]
    congr 1
    rw [Int.mul_neg]
    omega
theorem low_len {fl : List Bool} (c : CanF fl) {g : Int} (hg : g ∈ D60) (hd : g ∣ (fl.length : Int)) (h : ∀ d, flagAt fl (d + g) = flagAt fl d) : g = fl.length := by
  refine Classical.byContradiction fun hne => ?_
  obtain ⟨q, hq, h1, h2, h3⟩ := low_pr _ c.d g hg hd hne
  refine c.least q hq h1 fun i hi => ?_
  have e : flagAt fl ((i + ((fl.length : Int) / q).toNat : Nat) : Int) = flagAt fl (i : Int) := per_dvd h (by
    have : (((i + ((fl.length : Int) / q).toNat : Nat) : Int) - (i : Int)) = (fl.length : Int) / q := by omega
    rw [this]
    exact h2)
  rw [flagAt_nat hi, flagAt_nat (by omega)] at e
  rw [List.getElem?_eq_getElem hi, List.getElem?_eq_getElem (by omega), e]
theorem asc_ext : ∀ {a b : List Int}, a.Pairwise (· < ·) → b.Pairwise (· < ·) → (∀ x, x ∈ a ↔ x ∈ b) → a = b
  | [], [], _, _, _ => rfl
  | [], y :: b, _, _, h => absurd ((h y).mpr (List.mem_cons_self ..)) (by simp)
  | x :: a, [], _, _, h => absurd ((h x).mp (List.mem_cons_self ..)) (by simp)
  | x :: a, y :: b, ha, hb, h => by
    rw [List.pairwise_cons] at ha hb
    have e : x = y := by
      have h1 := (h x).mp (List.mem_cons_self ..)
      have h2 := (h y).mpr (List.mem_cons_self ..)
      rcases List.mem_cons.mp h1 with e | m
      · exact e
      · rcases List.mem_cons.mp h2 with e | m2
        · exact e.symm
        · have := hb.1 x m
          have := ha.1 y m2
          omega
    subst e
    congr 1
    refine asc_ext ha.2 hb.2 fun z => ?_
    constructor
    · intro hz
      rcases List.mem_cons.mp ((h z).mp (List.mem_cons_of_mem _ hz)) with e | m
      · have := ha.1 z hz
        omega
      · exact m
    · intro hz
      rcases List.mem_cons.mp ((h z).mpr (List.mem_cons_of_mem _ hz)) with e | m
      · have := hb.1 z hz
        omega
      · exact m
theorem canon {fl gl : List Bool} {fx gx : List Int} (c1 : CanF fl) (x1 : CanX fx) (c2 : CanF gl) (x2 : CanX gx) (h : ∀ d, 1 ≤ d → memR fl fx d = memR gl gx d) : fl = gl ∧ fx = gx := by
  have b1 := D60_bd _ c1.d
  have b2 := D60_bd _ c2.d
  have far : ∀ d, 61 ≤ d → flagAt fl d = flagAt gl d := fun d hd => by
    have := h d (by omega)
    unfold memR at this
    rw [decide_eq_false (fun z => by have := x1.bd d z; omega), decide_eq_false (fun z => by have := x2.bd d z; omega)] at this
    simpa using this
  have all : ∀ d, flagAt fl d = flagAt gl d := fun d => by
    have p1 : ∀ d, flagAt fl (d + 60) = flagAt fl d := fun d => flagAt_per (by rw [show d + 60 - d = 60 by omega]; exact b1.2.2)
    have p2 : ∀ d, flagAt gl (d + 60) = flagAt gl d := fun d => flagAt_per (by rw [show d + 60 - d = 60 by omega]; exact b2.2.2)
    have e1 := per_mul p1 (d.natAbs + 2) d
    have e2 := per_mul p2 (d.natAbs + 2) d
    rw [← e1, ← e2]
    exact far _ (by rw [Int.natCast_add]; omega)
  have hg := gcd_D60 _ c1.d _ c2.d
  have perG : ∀ d, flagAt fl (d + (Int.gcd fl.length gl.length : Nat)) = flagAt fl d := fun d => by
    obtain ⟨a, _, ha⟩ := bez _ c1.d _ c2.d
    have e1 : flagAt fl (d + (Int.gcd fl.length gl.length : Nat)) = flagAt fl (d + a * fl.length) := by
      rw [all, all]
      refine (flagAt_per ?_).symm
      have : d + (a : Int) * fl.length - (d + (Int.gcd fl.length gl.length : Nat)) = (a : Int) * fl.length - (Int.gcd fl.length gl.length : Nat) := by omega
      rw [this]
      exact Int.dvd_of_emod_eq_zero ha
    rw [e1]
    exact flagAt_per ⟨a, by rw [Int.mul_comm]; omega⟩
  have perG2 : ∀ d, flagAt gl (d + (Int.gcd fl.length gl.length : Nat)) = flagAt gl d := fun d => by rw [← all, ← all]; exact perG d
  have l1 := low_len c1 hg (Int.gcd_dvd_left ..) perG
  have l2 := low_len c2 hg (Int.gcd_dvd_right ..) perG2
  have ll : fl.length = gl.length := by omega
  have fe : fl = gl := by
    apply List.ext_getElem ll
    intro i h1 h2
    rw [← flagAt_nat h1, ← flagAt_nat h2]
    exact all _
  subst fe
  refine ⟨rfl, asc_ext x1.asc x2.asc fun d => ?_⟩
  have key : ∀ d, 1 ≤ d → (d ∈ fx ↔ d ∈ gx) := fun d hd => by
    have := h d hd
    unfold memR at this
    by_cases z1 : d ∈ fx <;> by_cases z2 : d ∈ gx <;> simp [z1, z2] at this ⊢
  constructor
  · exact fun z => (key d (x1.bd d z).1).mp z
  · exact fun z => (key d (x2.bd d z).1).mpr z
theorem CanX.len {fx : List Int} (c : CanX fx) : fx.length ≤ 60 := by
  have := sub_len (l := fx) (m := (List.range 61).map fun (i : Nat) => (i : Int)) (c.asc.imp fun h e => by omega) fun x hx => by
    have := c.bd x hx
    exact List.mem_map.mpr ⟨x.toNat, List.mem_range.mpr (by omega), by omega⟩
  have h2 : fx.length ≤ 60 ∨ fx.length = 61 := by
    rw [List.length_map, List.length_range] at this
    omega
  rcases h2 with h2 | h2
  · exact h2
  · exfalso
    have := sub_len (l := fx) (m := (List.range 60).map fun (i : Nat) => ((i + 1 : Nat) : Int)) (c.asc.imp fun h e => by omega) fun x hx => by
      have := c.bd x hx
      exact List.mem_map.mpr ⟨(x - 1).toNat, List.mem_range.mpr (by omega), by omega⟩
    rw [List.length_map, List.length_range] at this
    omega
end Rln
end
section
set_option Elab.async false
set_option linter.all false
set_option maxRecDepth 100000
set_option maxHeartbeats 4000000
namespace Rln
open PySem PySem.Spec PyProof.Rows L2
/-- a Plainest -/
def PlAt (K : PySem.W.Frag) (H : Hp) (v : V) (fl : List Bool) (fx : List Int) : Prop :=
  ∃ p dx A B C, v = .ref p ∧ H p = some (.ins (cPl K) dx [("period", .int fl.length), ("flags", .ref A), ("flipped", .ref B), ("below", .ref C)]) ∧ H A = some (.lst (fl.map V.bl)) ∧ SqT K H B (fx.map V.int)
theorem PlAt.mono {K : PySem.W.Frag} {H H' : Hp} {v : V} {fl fx} (e : Same H H') (h : PlAt K H v fl fx) : PlAt K H' v fl fx := by
  obtain ⟨p, dx, A, B, C, rfl, h1, h2, h3⟩ := h
  exact ⟨p, dx, A, B, C, rfl, e _ _ h1, e _ _ h2, e.sqt h3⟩
/-- a Distances object of the set S -/
def SetAt (K : PySem.W.Frag) (H : Hp) (v : V) (S : Int → Bool) : Prop :=
  ∃ p dx u fl fx, v = .ref p ∧ H p = some (.ins (cDist K) dx [("plain", u)]) ∧ PlAt K H u fl fx ∧ CanF fl ∧ CanX fx ∧ ∀ d, 1 ≤ d → memR fl fx d = S d
theorem SetAt.mono {K : PySem.W.Frag} {H H' : Hp} {v : V} {S : Int → Bool} (e : Same H H') (h : SetAt K H v S) : SetAt K H' v S := by
  obtain ⟨p, dx, u, fl, fx, rfl, h1, h2, h3⟩ := h
  exact ⟨p, dx, u, fl, fx, rfl, e _ _ h1, h2.mono e, h3⟩
theorem SetAt.congr {K : PySem.W.Frag} {H : Hp} {v : V} {S T : Int → Bool} (h : SetAt K H v S) (e : ∀ d, 1 ≤ d → S d = T d) : SetAt K H v T := by
  obtain ⟨p, dx, u, fl, fx, rfl, h1, h2, h3, h4, h5⟩ := h
  exact ⟨p, dx, u, fl, fx, rfl, h1, h2, h3, h4, fun d hd => (h5 d hd).trans (e d hd)⟩
section
variable {P : Program} {w : World} {K : PySem.W.Frag} {mg : Str → Option Value} {base : Heap}
theorem flag_ix {fl : List Bool} (h : 1 ≤ fl.length) (d : Int) : atI (fl.map V.bl) (d % (fl.length : Int)) = some (.bl (flagAt fl d)) := by
  have a0 : 0 ≤ d % (fl.length : Int) := Int.emod_nonneg _ (by omega)
  have a1 : d % (fl.length : Int) < fl.length := Int.emod_lt_of_pos _ (by omega)
  have h1 : (d % (fl.length : Int)).toNat < fl.length := by omega
  have h2 := atI_nat (xs := fl.map V.bl) (j := (d % (fl.length : Int)).toNat) (v := .bl (flagAt fl d)) (by
    rw [List.getElem?_map, List.getElem?_eq_getElem h1]
    unfold flagAt
    rw [List.getD_eq_getElem?_getD, List.getElem?_eq_getElem h1]
    rfl)
  rw [Int.toNat_of_nonneg a0] at h2
  exact h2
abbrev N_Plainest_init : List Str := ["self", "flags", "flipped"]
theorem sc_Plainest_init : FnScope N_Plainest_init ["self", "flags", "flipped"] (defScope s_Plainest_init) := ⟨rfl, rfl, rfl, by decide +kernel, rfl, by decide +kernel, by decide +kernel⟩
def spPlI (K : PySem.W.Frag) : Sp := fun vs H Q _ => ∃ (x dx A B : Addr) (fl : List Bool) (fx : List Int), vs = [.ref x, .ref A, .ref B] ∧ H x = some (.ins (cPl K) dx []) ∧ H A = some (.lst (fl.map V.bl)) ∧ SqT K H B (fx.map V.int) ∧ (fl.length : Int) ∈ D60 ∧
  ∀ H' gl, Sx x H H' → PlAt K H' (.ref x) gl fx → CanF gl → (∀ d, flagAt gl d = flagAt fl d) → Q .non H'
theorem SqT.sx {x C dx : Addr} {fs : List (Str × V)} {H H' : Hp} {B : Addr} {xs : List V} (s : SqT K H B xs) (hx : H x = some (.ins C dx fs)) (e : Sx x H H') : SqT K H' B xs := by
  rcases s with (z | ⟨o, z⟩) | z
  · exact .inl (.inl (e _ _ (ne_of z hx (by intro z; cases z)) z))
  · exact .inl (.inr ⟨o, e _ _ (ne_of z hx (by intro z; cases z)) z⟩)
  · exact .inr z
theorem mak_Pl (T : Tx K mg) : Mak P w K mg base 3 "Plainest" (cPl K) (spPlI K) [] := by
  refine makD T.f_Plainest_init T.mk_Plainest T.g_Plainest sc_Plainest_init (fun vs H Q E h => ?_) (fun _ _ _ _ _ _ us hl => match us, hl with | [_, _, _], _ => rfl) (fun cdv A outer s H vs Q E hr h => ?_)
  · obtain ⟨x, dx, A, B, _, _, rfl, _⟩ := h
    rfl
  · obtain ⟨x, dx, A0, B, fl, fx, rfl, hx, hA, hB, hd, k⟩ := h
    refine ⟨_, (pss_cons (ps_fld (pv 0) (C8.pe_c (cal_least_period T) hr (by decide) (by rfl) (pa_cons (pv 1) pa_nil)) rfl)
      (pss_cons (ps_fld (pv 0) (pe_slice sl_list (pv 1) po_none (po_some (pe_fld (pv 0) rfl))) rfl)
      (pss_cons (ps_fld (pv 0) (pv 2) rfl)
      (pss_one (ps_fld (pv 0) (C8.pe_c (cal_sums_of T) hr (by decide) (by rfl) (pa_cons (pe_fld (pv 0) rfl) pa_nil)) rfl))))), ?_⟩
    have fb := D60_ne hd
    have l0 : 1 ≤ fl.length := by omega
    have hl : (fl.map V.bl).length = fl.length := List.length_map ..
    refine ⟨_, rfl, A0, fl, rfl, hA, hd, fun H1 p e1 hp => ?_⟩
    have e1 : Same H H1 := e1
    have pb := D60_ne hp.d
    have ple : p ≤ fl.length := Int.le_of_dvd (by omega) hp.dv
    have tl := take_len hp l0
    have ept : (p.toNat : Int) = p := by omega
    refine ⟨_, rfl, x, _, dx, [], rfl, e1 _ _ hx, T.c_Plainest, T.na_Plainest_period, by show 0 < 1000; decide, ?_⟩
    have e2 : Sx x H (upd H1 x (.ins (cPl K) dx (putF "period" (.int p) []))) := (Same.sx e1).put
    have hx2 : upd H1 x (.ins (cPl K) dx (putF "period" (.int p) [])) x = some (.ins (cPl K) dx [("period", .int p)]) := upd_same
    generalize upd H1 x (.ins (cPl K) dx (putF "period" (.int p) [])) = H2 at e2 hx2
    have hA2 := e2 _ _ (ne_of hA hx (by intro z; cases z)) hA
    refine ⟨_, rfl, _, rfl, x, _, dx, _, _, rfl, hx2, T.c_Plainest, T.na_Plainest_period, rfl, _, rfl, A0, _, rfl, SqL.of hA2, fun q hq => ?_⟩
    have ecut : cutV (fl.map V.bl) none (some p) = (fl.take p.toNat).map V.bl := by
      have := cut_take (fl.map V.bl) p.toNat (by rw [hl]; omega)
      rw [ept] at this
      rw [this, List.map_take]
    rw [ecut]
    have nqx : q ≠ x := Ne.symm (ne_of_none hx2 hq)
    refine ⟨_, rfl, x, _, dx, [("period", .int p)], rfl, ?_, T.c_Plainest, T.na_Plainest_flags, by show 1 < 1000; decide, ?_⟩
    · rw [upd_ne (Ne.symm nqx)]
      exact hx2
    have e3 : Sx x H (upd (upd H2 q (.lst ((fl.take p.toNat).map V.bl))) x (.ins (cPl K) dx (putF "flags" (.ref q) [("period", .int p)]))) := (e2.new hq).put
    have hx3 : (upd (upd H2 q (.lst ((fl.take p.toNat).map V.bl))) x (.ins (cPl K) dx (putF "flags" (.ref q) [("period", .int p)]))) x = some (.ins (cPl K) dx [("period", .int p), ("flags", .ref q)]) := upd_same
    have hq3 : (upd (upd H2 q (.lst ((fl.take p.toNat).map V.bl))) x (.ins (cPl K) dx (putF "flags" (.ref q) [("period", .int p)]))) q = some (.lst ((fl.take p.toNat).map V.bl)) := by
      rw [upd_ne nqx, upd_same]
    generalize (upd (upd H2 q (.lst ((fl.take p.toNat).map V.bl))) x (.ins (cPl K) dx (putF "flags" (.ref q) [("period", .int p)]))) = H3 at e3 hx3 hq3
    refine ⟨_, rfl, _, rfl, x, _, dx, _, rfl, hx3, T.c_Plainest, T.na_Plainest_flipped, by show 2 < 1000; decide, ?_⟩
    have e4 : Sx x H (upd H3 x (.ins (cPl K) dx (putF "flipped" (.ref B) [("period", .int p), ("flags", .ref q)]))) := e3.put
    have hx4 : (upd H3 x (.ins (cPl K) dx (putF "flipped" (.ref B) [("period", .int p), ("flags", .ref q)]))) x = some (.ins (cPl K) dx [("period", .int p), ("flags", .ref q), ("flipped", .ref B)]) := upd_same
    have hq4 : (upd H3 x (.ins (cPl K) dx (putF "flipped" (.ref B) [("period", .int p), ("flags", .ref q)]))) q = some (.lst ((fl.take p.toNat).map V.bl)) := by
      rw [upd_ne nqx]
      exact hq3
    generalize (upd H3 x (.ins (cPl K) dx (putF "flipped" (.ref B) [("period", .int p), ("flags", .ref q)]))) = H4 at e4 hx4 hq4
    refine ⟨_, rfl, x, _, dx, _, _, rfl, hx4, T.c_Plainest, T.na_Plainest_flags, rfl, q, fl.take p.toNat, rfl, hq4, by omega, by omega, fun H5 C e5 => ?_⟩
    have e5 : Same H4 H5 := e5
    refine ⟨_, rfl, x, _, dx, _, rfl, e5 _ _ hx4, T.c_Plainest, T.na_Plainest_below, by show 3 < 1000; decide, ?_⟩
    have e6 : Sx x H (upd H5 x (.ins (cPl K) dx (putF "below" (.ref C) [("period", .int p), ("flags", .ref q), ("flipped", .ref B)]))) := (e4.trans (Same.sx e5)).put
    refine k _ (fl.take p.toNat) e6 ⟨x, dx, q, B, C, rfl, ?_, ?_, SqT.sx hB hx e6⟩ (take_can hp l0) (take_flag hp l0)
    · rw [upd_same, tl]
      rfl
    · rw [upd_ne nqx]
      exact e5 _ _ hq4
abbrev N_Plainest_is_in : List Str := ["self", "distance"]
theorem sc_Plainest_is_in : FnScope N_Plainest_is_in ["self", "distance"] (defScope s_Plainest_is_in) := ⟨rfl, rfl, rfl, by decide +kernel, rfl, by decide +kernel, by decide +kernel⟩
def spIsIn (K : PySem.W.Frag) : Sp := fun vs H Q _ => ∃ v fl fx d, vs = [v, .int d] ∧ PlAt K H v fl fx ∧ 1 ≤ fl.length ∧ Q (.bl (memR fl fx d)) H
theorem inV_ints (d : Int) (fx : List Int) : inV (.int d) (fx.map V.int) = decide (d ∈ fx) := by
  unfold inV
  rw [List.any_map, Bool.eq_iff_iff, List.any_eq_true, decide_eq_true_eq]
  constructor
  · rintro ⟨y, hy, e⟩
    have : y = d := by simpa [eqV] using e
    rw [← this]
    exact hy
  · intro h
    exact ⟨d, h, by simp [eqV]⟩
theorem met_is_in (T : Tx K mg) : Met P w K mg base 1 (cPl K) "is_in" (spIsIn K) [] := by
  refine metD T.f_Plainest_is_in T.c_Plainest T.m_Plainest_is_in sc_Plainest_is_in (fun vs H Q E h => ?_) (fun _ _ _ _ _ _ us hl => match us, hl with | [_, _], _ => rfl) (fun cdv A outer s H vs Q E hr h => ?_)
  · obtain ⟨v, fl, fx, d, rfl, _⟩ := h
    rfl
  · obtain ⟨v, fl, fx, d, rfl, ⟨p, dx, A0, B, C, rfl, hp, hA, hB⟩, l1, k⟩ := h
    refine ⟨_, (pss_one (ps_ret (pe_cmpR op_ne (pe_ix ix_list (pe_fld (pv 0) rfl) (pe_op op_mod (pv 1) (pe_fld (pv 0) rfl)) (fun _ _ => rfl)) (pe_cmpR op_in_seq (pv 1) (pe_fld (pv 0) rfl) (by rfl)) (nomark _)))), ?_⟩
    refine ⟨_, rfl, p, _, dx, _, _, rfl, hp, T.c_Plainest, T.na_Plainest_flags, rfl, _, rfl, _, rfl, p, _, dx, _, _, rfl, hp, T.c_Plainest, T.na_Plainest_period, rfl, _, _, rfl, rfl, by show (0 : Int) < (fl.length : Nat); omega, A0, _, _, _, rfl, rfl, SqL.of hA, flag_ix l1 d, ?_⟩
    refine ⟨_, rfl, _, rfl, p, _, dx, _, _, rfl, hp, T.c_Plainest, T.na_Plainest_flipped, rfl, B, _, rfl, .inr hB, rfl, ?_, rfl, ?_⟩
    · rw [List.all_eq_true]
      intro y hy
      obtain ⟨i, _, rfl⟩ := List.mem_map.mp hy
      rfl
    · have : memR fl fx d = !decide (V.bl (flagAt fl d) = V.bl (inV (.int d) (fx.map V.int))) := by
        rw [inV_ints]
        unfold memR
        cases flagAt fl d <;> cases decide (d ∈ fx) <;> rfl
      rw [this] at k
      exact k
end
end Rln
end
section
set_option Elab.async false
set_option linter.all false
set_option maxRecDepth 100000
set_option maxHeartbeats 4000000
namespace Rln
open PySem PySem.Spec PyProof.Rows L2
section
variable {P : Program} {w : World} {K : PySem.W.Frag} {mg : Str → Option Value} {base : Heap}
theorem sm_all {ns : List Int} {p : Int → Bool} (h : ∀ n ∈ ns, p n = true) : (ns.map p).all id = true := by
  rw [List.all_eq_true]
  intro b hb
  obtain ⟨n, hn, rfl⟩ := List.mem_map.mp hb
  exact h n hn
abbrev N_checked : List Str := ["modulus", "classes", "changed", "flags", "one", "remainder"]
theorem sc_checked : FnScope N_checked ["modulus", "classes", "changed"] (defScope s_checked) := ⟨rfl, rfl, rfl, by decide +kernel, rfl, by decide +kernel, by decide +kernel⟩
def spChecked (K : PySem.W.Frag) : Sp := fun vs H Q _ => ∃ (m : Int) (C G : Addr) (cs gs : List Int), vs = [.int m, .ref C, .ref G] ∧ m ∈ D60 ∧ SqT K H C (cs.map V.int) ∧ SqT K H G (gs.map V.int) ∧ cs.Nodup ∧ (∀ c ∈ cs, 0 ≤ c ∧ c < m) ∧ gs.Nodup ∧ (∀ g ∈ gs, 1 ≤ g ∧ g ≤ 60) ∧
  ∀ H' v fl fx, Same H H' → PlAt K H' v fl fx → CanF fl → CanX fx → (∀ d, flagAt fl d = decide (d % m ∈ cs)) → (∀ d, d ∈ fx ↔ d ∈ gs) → Q v H'
theorem cal_checked (T : Tx K mg) : Cal P w K mg base 5 "checked" (spChecked K) [] := by
  refine calD T.f_checked T.g_checked sc_checked (fun vs H Q E h => ?_) (fun _ _ _ _ _ _ us hl => match us, hl with | [_, _, _], _ => rfl) (fun cdv A outer s H vs Q E hr h => ?_)
  · obtain ⟨m, C, G, _, _, rfl, _⟩ := h
    rfl
  · obtain ⟨m, C, G, cs, gs, rfl, hm, hC, hG, hcn, hcb, hgn, hgb, k⟩ := h
    refine ⟨_, (pss_cons (ps_if (PW.pt (pw_or (pt_not (pt_val (C8.pe_c (cal_is_whole T) hr (by decide) (by rfl) (pa_cons (pv 0) pa_nil)))) (pw_or1 (pt_not (pt_chain op_le op_le pe_int (pv 0) (C8.pe_gc (by rfl) T.i_MOST_MODULUS)))))) pss_never pss_nil)
      (pss_cons (ps_if (PW.pt (pw_or (pt_not (pt_val (pe_callB call_isi (by rfl) T.n_isinstance (by decide +kernel) (pa_cons (pv 1) (pa_cons (pe_bltn (v := .ty "tuple") (by rfl) T.n_tuple boot_tuple rfl) pa_nil))))) (pw_or1 (pt_not (pt_val (pe_callB (cr_all rfl) (by rfl) T.n_all (by decide +kernel) (pa_cons (pe_lc (own := [("one", 4)]) rfl sc_checked.nd (pi_tup (pv 1)) (blkOk_by (N := N_checked) (sc := defScope s_checked) (own := [("one", 4)]) (by decide +kernel)) (fun _ _ _ _ _ => (pg_name (i := 4) sc_checked.nd rfl (Or.inl rfl))) (fun _ _ _ _ _ => pts_nil) (fun _ _ _ _ _ => (pe_and (C8.pe_c (cal_is_whole T) hr (by decide) (by rfl) (pa_cons (pv 4) pa_nil)) (pe_one (pe_chain op_le op_lt pe_int (pv 4) (pv 0)))))) pa_nil))))))) pss_never pss_nil)
      (pss_cons (ps_if (pt_cmpR op_lt (pe_callB (cr_lenSetB (w := w) rfl) (by rfl) T.n_len (by decide +kernel) (pa_cons (pe_callTy (cr_setTB (K := K) (w := w) rfl rfl rfl) (by rfl) T.n_set boot_set (pa_cons (pv 1) pa_nil)) pa_nil)) (pe_callB call_len_seq (by rfl) T.n_len (by decide +kernel) (pa_cons (pv 1) pa_nil)) (nomark _)) pss_never pss_nil)
      (pss_cons (ps_if (PW.pt (pw_or (pt_not (pt_val (pe_callB call_isi (by rfl) T.n_isinstance (by decide +kernel) (pa_cons (pv 2) (pa_cons (pe_bltn (v := .ty "tuple") (by rfl) T.n_tuple boot_tuple rfl) pa_nil))))) (pw_or1 (pt_not (pt_val (pe_callB (cr_all rfl) (by rfl) T.n_all (by decide +kernel) (pa_cons (pe_lc (own := [("one", 4)]) rfl sc_checked.nd (pi_tup (pv 2)) (blkOk_by (N := N_checked) (sc := defScope s_checked) (own := [("one", 4)]) (by decide +kernel)) (fun _ _ _ _ _ => (pg_name (i := 4) sc_checked.nd rfl (Or.inl rfl))) (fun _ _ _ _ _ => pts_nil) (fun _ _ _ _ _ => (pe_and (C8.pe_c (cal_is_whole T) hr (by decide) (by rfl) (pa_cons (pv 4) pa_nil)) (pe_one (pe_cmpR op_ge (pv 4) pe_int (nomark _)))))) pa_nil))))))) pss_never pss_nil)
      (pss_cons (ps_if (pt_cmpR op_lt (pe_callB (cr_lenSetB (w := w) rfl) (by rfl) T.n_len (by decide +kernel) (pa_cons (pe_callTy (cr_setTB (K := K) (w := w) rfl rfl rfl) (by rfl) T.n_set boot_set (pa_cons (pv 2) pa_nil)) pa_nil)) (pe_callB call_len_seq (by rfl) T.n_len (by decide +kernel) (pa_cons (pv 2) pa_nil)) (nomark _)) pss_never pss_nil)
      (pss_cons (ps_setLc (i := 3) (own := [("remainder", 5)]) rfl sc_checked.nd rfl rfl (sw_true rfl rfl rfl (by decide +kernel)) (pi_range1 (by rfl) T.n_range (pa_cons (pv 0) pa_nil)) (blkOk_by (N := N_checked) (sc := defScope s_checked) (own := [("remainder", 5)]) (by decide +kernel)) (fun _ _ _ _ _ => (pg_name (i := 5) sc_checked.nd rfl (Or.inl rfl))) (fun _ _ _ _ _ => pts_nil) (fun _ _ _ _ _ => (pe_cmpR (op_in_seqB (K := K) rfl) (pv 5) (pv 1) (by rfl))))
      (pss_one (ps_ret (C8.pe_mk (mak_Pl T) hr (by decide) (by rfl) (pa_cons (pv 3) (pa_cons (pe_callTy call_tuple_of (by rfl) T.n_tuple boot_tuple (pa_cons (pe_callB cr_sortedTup (by rfl) T.n_sorted (by decide +kernel) (pa_cons (pv 2) pa_nil)) pa_nil)) pa_nil))))))))))), ?_⟩
    have mb := D60_ne hm
    have lcs : cs.length ≤ 60 := by
      have := sub_len (m := (List.range m.toNat).map fun (i : Nat) => (i : Int)) hcn fun x hx => by
        have := hcb x hx
        exact List.mem_map.mpr ⟨x.toNat, List.mem_range.mpr (by omega), by omega⟩
      rw [List.length_map, List.length_range] at this
      omega
    have lgs : gs.length ≤ 60 := by
      have := sub_len (m := (List.range 60).map fun (i : Nat) => ((i + 1 : Nat) : Int)) hgn fun x hx => by
        have := hgb x hx
        exact List.mem_map.mpr ⟨(x - 1).toNat, List.mem_range.mpr (by omega), by omega⟩
      rw [List.length_map, List.length_range] at this
      omega
    refine ⟨_, rfl, _, rfl, rfl, _, rfl, iteF ⟨_, rfl, _, _, rfl, rfl, _, rfl, ?_⟩⟩
    rw [decide_eq_true (by omega : (1 : Int) ≤ m)]
    refine iteT ⟨_, _, rfl, rfl, _, rfl, ?_⟩
    rw [decide_eq_true (by omega : m ≤ 720)]
    refine iteF ?_
    refine ⟨_, rfl, _, _, _, _, _, rfl, .ty _, ty_sqt hC, k_tt, _, rfl, iteF ?_⟩
    refine ⟨_, rfl, C, rfl, ⟨_, hC⟩, fun D hD => lc_it (walk_tup (xs := cs.map V.int)) (fun i H' => Same H H' ∧ H' D = some (.lst (((cs.take i).map fun _ => true).map V.bl))) ⟨Same.new hD, upd_same⟩ (fun i H' _ h => h.1.sqt hC) ?_ ?_⟩
    · rintro i x H2 H3 hi ⟨e2, hl2⟩ ⟨eH, hx⟩
      have eH2 : H2 = H3 := eH.symm
      subst eH2
      have hi' : i < cs.length := by rw [List.length_map] at hi; exact hi
      rw [List.getElem?_map, List.getElem?_eq_getElem hi'] at hx
      cases hx
      have hb := hcb _ (List.getElem_mem hi')
      refine ⟨rfl, lcYes (iteT ⟨_, rfl, _, rfl, rfl, _, rfl, iteT ⟨_, rfl, _, _, rfl, rfl, _, rfl, ?_⟩⟩)⟩
      refine iteTd (decide_eq_true hb.1) ⟨_, rfl, _, _, rfl, rfl, _, hl2, ?_, e2.put hD, ?_⟩
      · rw [List.length_map, List.length_map, List.length_take, sizeLine_eq]
        omega
      · rw [upd_same, List.take_succ_eq_append_getElem hi', List.map_append, List.map_append]
        show some (HO.lst (_ ++ [V.bl (decide (cs[i] < m))])) = _
        rw [decide_eq_true hb.2]
        rfl
    rintro H1 ⟨e1, hl1⟩
    rw [List.length_map, List.take_length] at hl1
    refine ⟨D, (cs.map fun _ => true), rfl, SqL.of hl1, _, rfl, ?_⟩
    rw [sm_all fun _ _ => rfl]
    refine iteF ?_
    have hC1 := e1.sqt hC
    have hG1 := e1.sqt hG
    refine ⟨_, rfl, C, cs, rfl, hC1, by omega, fun p n hp hn hn2 => ?_⟩
    rw [hn2 hcn]
    have e2 : Same H1 (upd H1 p (SetO w p (fun j => decide (j ∈ cs)) cs.length)) := Same.new hp
    have hps : upd H1 p (SetO w p (fun j => decide (j ∈ cs)) cs.length) p = some (SetO w p (fun j => decide (j ∈ cs)) cs.length) := upd_same
    generalize upd H1 p (SetO w p (fun j => decide (j ∈ cs)) cs.length) = H2 at e2 hps
    have hC2 := e2.sqt hC1
    have hG2 := e2.sqt hG1
    refine ⟨p, _, cs.length, rfl, hps, by omega, _, rfl, C, _, rfl, .inr hC2, _, _, rfl, rfl, _, rfl, ?_⟩
    rw [List.length_map, decide_eq_false (Int.lt_irrefl _)]
    refine iteF ?_
    refine ⟨_, rfl, _, _, _, _, _, rfl, .ty _, ty_sqt hG2, k_tt, _, rfl, iteF ?_⟩
    refine ⟨_, rfl, G, rfl, ⟨_, hG2⟩, fun D2 hD2 => lc_it (walk_tup (xs := gs.map V.int)) (fun i H' => Same H2 H' ∧ H' D2 = some (.lst (((gs.take i).map fun _ => true).map V.bl))) ⟨Same.new hD2, upd_same⟩ (fun i H' _ h => h.1.sqt hG2) ?_ ?_⟩
    · rintro i x H4 H3 hi ⟨e2, hl2⟩ ⟨eH, hx⟩
      have eH2 : H4 = H3 := eH.symm
      subst eH2
      have hi' : i < gs.length := by rw [List.length_map] at hi; exact hi
      rw [List.getElem?_map, List.getElem?_eq_getElem hi'] at hx
      cases hx
      have hb := hgb _ (List.getElem_mem hi')
      refine ⟨rfl, lcYes (iteT ⟨_, rfl, _, rfl, rfl, _, rfl, iteT ⟨_, rfl, _, _, rfl, rfl, _, hl2, ?_, e2.put hD2, ?_⟩⟩)⟩
      · rw [List.length_map, List.length_map, List.length_take, sizeLine_eq]
        omega
      · rw [upd_same, List.take_succ_eq_append_getElem hi', List.map_append, List.map_append]
        show some (HO.lst (_ ++ [V.bl (decide (1 ≤ gs[i]))])) = _
        rw [decide_eq_true hb.1]
        rfl
    rintro H3 ⟨e3, hl3⟩
    rw [List.length_map, List.take_length] at hl3
    refine ⟨D2, (gs.map fun _ => true), rfl, SqL.of hl3, _, rfl, ?_⟩
    rw [sm_all fun _ _ => rfl]
    refine iteF ?_
    have hC3 := e3.sqt hC2
    have hG3 := e3.sqt hG2
    refine ⟨_, rfl, G, gs, rfl, hG3, by omega, fun p2 n2 hp2 hn3 hn4 => ?_⟩
    rw [hn4 hgn]
    have e4 : Same H3 (upd H3 p2 (SetO w p2 (fun j => decide (j ∈ gs)) gs.length)) := Same.new hp2
    have hps2 : upd H3 p2 (SetO w p2 (fun j => decide (j ∈ gs)) gs.length) p2 = some (SetO w p2 (fun j => decide (j ∈ gs)) gs.length) := upd_same
    generalize upd H3 p2 (SetO w p2 (fun j => decide (j ∈ gs)) gs.length) = H4 at e4 hps2
    have hC4 := e4.sqt hC3
    have hG4 := e4.sqt hG3
    refine ⟨p2, _, gs.length, rfl, hps2, by omega, _, rfl, G, _, rfl, .inr hG4, _, _, rfl, rfl, _, rfl, ?_⟩
    rw [List.length_map, decide_eq_false (Int.lt_irrefl _)]
    refine iteF ?_
    refine ⟨_, rfl, _, rfl, by omega, by omega, fun F hF => lc_it (walk_range (lo := 0) (n := m.toNat)) (fun i H' => Same H4 H' ∧ H' F = some (.lst (((List.range i).map fun (j : Nat) => decide ((j : Int) ∈ cs)).map V.bl))) ⟨Same.new hF, upd_same⟩ (fun _ _ _ _ => trivial) ?_ ?_⟩
    · rintro i x H5 H6 hi ⟨e5, hl5⟩ ⟨eH, rfl⟩
      have eH2 : H5 = H6 := eH.symm
      subst eH2
      refine ⟨rfl, lcYes (iteT ⟨_, rfl, _, rfl, C, _, rfl, .inr (e5.sqt hC4), rfl, ?_, _, hl5, ?_, e5.put hF, ?_⟩)⟩
      · rw [List.all_eq_true]
        intro y hy
        obtain ⟨z, _, rfl⟩ := List.mem_map.mp hy
        rfl
      · rw [List.length_map, List.length_map, List.length_range, sizeLine_eq]
        omega
      · rw [upd_same, List.range_succ, List.map_append, List.map_append]
        show some (HO.lst (_ ++ [V.bl (inV (V.int (0 + (i : Int))) (cs.map V.int))])) = _
        rw [inV_ints, Int.zero_add]
        rfl
    rintro H5 ⟨e5, hl5⟩
    have hG5 := e5.sqt hG4
    refine ⟨_, rfl, _, rfl, G, gs, rfl, hG5, by omega, fun ms q hperm hsort hq => ⟨q, _, rfl, .inl ⟨SqL.of upd_same, fun r hr' => ?_⟩⟩⟩
    have e6 : Same H5 (upd (upd H5 q (.lst (ms.map V.int))) r (.tup (ms.map V.int))) := (Same.new hq).add hr'
    have hr6 : upd (upd H5 q (.lst (ms.map V.int))) r (.tup (ms.map V.int)) r = some (.tup (ms.map V.int)) := upd_same
    generalize upd (upd H5 q (.lst (ms.map V.int))) r (.tup (ms.map V.int)) = H6 at e6 hr6
    have hF6 := e6 _ _ hl5
    intro x dx hx hdx ne
    have fl_len : ((((List.range m.toNat).map fun (j : Nat) => decide ((j : Int) ∈ cs)).length : Nat) : Int) = m := by
      rw [List.length_map, List.length_range]
      omega
    have nFx : F ≠ x := ne_of_none hF6 hx
    have nFd : F ≠ dx := ne_of_none hF6 hdx
    have nrx : r ≠ x := ne_of_none hr6 hx
    have nrd : r ≠ dx := ne_of_none hr6 hdx
    refine ⟨x, dx, F, r, _, ms, rfl, upd_same, by rw [upd_ne nFx, upd_ne nFd]; exact hF6, SqT.of (by rw [upd_ne nrx, upd_ne nrd]; exact hr6), by rw [fl_len]; exact hm, fun H7 gl s7 hP hcan hflag => ⟨rfl, ?_⟩⟩
    have e7 : Same H6 H7 := Sx.made s7 hx hdx
    have eall : Same H H7 := (((((e1.trans e2).trans e3).trans e4).trans e5).trans e6).trans e7
    refine k H7 (.ref x) gl ms eall hP hcan ⟨lt_of_le_nodup ms hsort (hperm.nodup_iff.mpr hgn), fun d hd => hgb d (hperm.mem_iff.mp hd)⟩ (fun d => ?_) fun d => hperm.mem_iff
    rw [hflag]
    have a0 : 0 ≤ d % m := Int.emod_nonneg _ (by omega)
    have a1 : d % m < m := Int.emod_lt_of_pos _ (by omega)
    unfold flagAt
    rw [fl_len, List.getD_eq_getElem?_getD, List.getElem?_map, List.getElem?_range (by omega)]
    show decide (((d % m).toNat : Int) ∈ cs) = _
    rw [Int.toNat_of_nonneg a0]
abbrev N_joined : List Str := ["one", "other", "table", "period", "flags", "flipped", "distance", "is_there", "place"]
theorem sc_joined : FnScope N_joined ["one", "other", "table"] (defScope s_joined) := ⟨rfl, rfl, rfl, by decide +kernel, rfl, by decide +kernel, by decide +kernel⟩
/-- the set that is joined by the table -/
def joinT (t : Bool → Bool → Bool) (f g : Bool) : Bool := t f g
def spJoined (K : PySem.W.Frag) : Sp := fun vs H Q _ => ∃ (u v : V) (tb : Addr) (t : Bool → Bool → Bool) (fl gl : List Bool) (fx gx : List Int), vs = [u, v, .ref tb] ∧ PlAt K H u fl fx ∧ PlAt K H v gl gx ∧ SqT K H tb [.bl (t false false), .bl (t false true), .bl (t true false), .bl (t true true)] ∧
  CanF fl ∧ CanX fx ∧ CanF gl ∧ CanX gx ∧ ∀ H' v hl hx, Same H H' → PlAt K H' v hl hx → CanF hl → CanX hx → (∀ d, 1 ≤ d → memR hl hx d = t (memR fl fx d) (memR gl gx d)) → Q v H'
theorem tab_ix (t : Bool → Bool → Bool) (f g : Bool) : atI [V.bl (t false false), .bl (t false true), .bl (t true false), .bl (t true true)] (2 * (if f = true then 1 else 0) + (if g = true then 1 else 0)) = some (.bl (t f g)) := by
  cases f <;> cases g <;> rfl
theorem cal_joined (T : Tx K mg) : Cal P w K mg base 5 "joined" (spJoined K) [] := by
  refine calD T.f_joined T.g_joined sc_joined (fun vs H Q E h => ?_) (fun _ _ _ _ _ _ us hl => match us, hl with | [_, _, _], _ => rfl) (fun cdv A outer s H vs Q E hr h => ?_)
  · obtain ⟨u, v, tb, _, _, _, _, _, rfl, _⟩ := h
    rfl
  · obtain ⟨u, v, tb, t, fl, gl, fx, gx, rfl, ⟨p, dx, A0, B0, C0, rfl, hp, hA, hB⟩, ⟨q, dy, A1, B1, C1, rfl, hq, hA1, hB1⟩, ht, cf, cx, cg, cy, k⟩ := h
    refine ⟨_, (pss_cons (ps_set (i := 3) sc_joined.nd rfl (Or.inl rfl) (C8.pe_c (cal_common_multiple T) hr (by decide) (by rfl) (pa_cons (pe_fld (pv 0) rfl) (pa_cons (pe_fld (pv 1) rfl) pa_nil))))
      (pss_cons (ps_setLc (i := 4) (own := [("place", 8)]) rfl sc_joined.nd rfl rfl (sw_true rfl rfl rfl (by decide +kernel)) (pi_range1 (by rfl) T.n_range (pa_cons (pv 3) pa_nil)) (blkOk_by (N := N_joined) (sc := defScope s_joined) (own := [("place", 8)]) (by decide +kernel)) (fun _ _ _ _ _ => (pg_name (i := 8) sc_joined.nd rfl (Or.inl rfl))) (fun _ _ _ _ _ => pts_nil) (fun _ _ _ _ _ => (pe_ix (ix_tupB (K := K) rfl) (pv 2) (pe_op op_add (pe_op op_mul pe_int (pe_callTy call_int1 (by rfl) T.n_int boot_int (pa_cons (pe_ix (ix_listB (K := K) rfl) (pe_fldB (K := K) rfl (pv 0) rfl) (pe_op op_mod (pv 8) (pe_fldB (K := K) rfl (pv 0) rfl)) (fun _ _ => rfl)) pa_nil))) (pe_callTy call_int1 (by rfl) T.n_int boot_int (pa_cons (pe_ix (ix_listB (K := K) rfl) (pe_fldB (K := K) rfl (pv 1) rfl) (pe_op op_mod (pv 8) (pe_fldB (K := K) rfl (pv 1) rfl)) (fun _ _ => rfl)) pa_nil))) (fun _ _ => rfl))))
      (pss_cons (ps_set (i := 5) sc_joined.nd rfl (Or.inl rfl) (pe_lst pa_nil))
      (pss_cons (ps_for PassesOwn.never rfl (pi_list (pe_callB (cr_sortedSetB (w := w) rfl rfl) (by rfl) T.n_sorted (by decide +kernel) (pa_cons (pe_callTy (cr_setLB (K := K) (w := w) rfl rfl rfl) (by rfl) T.n_set boot_set (pa_cons (pe_lst (StX.pa_star (pe_fld (pv 0) rfl) (StX.pa_star (pe_fld (pv 1) rfl) pa_nil))) pa_nil)) pa_nil))) (pg_name (i := 6) sc_joined.nd rfl (Or.inl rfl)) (pss_cons (ps_set (i := 7) sc_joined.nd rfl (Or.inl rfl) (pe_ix ix_tup (pv 2) (pe_op op_add (pe_op op_mul pe_int (pe_callTy call_int1 (by rfl) T.n_int boot_int (pa_cons (C8.pe_mt (met_is_in T) hr (by decide) (pv 0) (pa_cons (pv 6) pa_nil)) pa_nil))) (pe_callTy call_int1 (by rfl) T.n_int boot_int (pa_cons (C8.pe_mt (met_is_in T) hr (by decide) (pv 1) (pa_cons (pv 6) pa_nil)) pa_nil))) (fun _ _ => rfl)))
      (pss_one (ps_if (pt_cmpR op_ne (pv 7) (pe_ix ix_list (pv 4) (pe_op op_mod (pv 6) (pv 3)) (fun _ _ => rfl)) (nomark _)) (pss_one (ps_expr (pe_bm PySem.F.plainAttrs_list PySem.F.slot_list_append PySem.F.type_list_append mt_append (pv 5) (pa_cons (pv 6) pa_nil)))) pss_nil))))
      (pss_one (ps_ret (C8.pe_mk (mak_Pl T) hr (by decide) (by rfl) (pa_cons (pv 4) (pa_cons (pe_callTy call_tuple_of (by rfl) T.n_tuple boot_tuple (pa_cons (pv 5) pa_nil)) pa_nil))))))))), ?_⟩
    have fb := D60_ne cf.d
    have gb := D60_ne cg.d
    have lc := lc_D60 _ cf.d _ cg.d
    have lb := D60_ne lc.1
    refine ⟨_, rfl, p, _, dx, _, _, rfl, hp, T.c_Plainest, T.na_Plainest_period, rfl, _, rfl, q, _, dy, _, _, rfl, hq, T.c_Plainest, T.na_Plainest_period, rfl, _, _, rfl, by omega, by omega, by omega, by omega, ?_⟩
    have eper : ((fl.length : Int) * gl.length / (Int.gcd fl.length gl.length : Nat)) = lcI fl.length gl.length := rfl
    rw [eper]
    have fl0 : 1 ≤ fl.length := by omega
    have gl0 : 1 ≤ gl.length := by omega
    generalize hpd : lcI fl.length gl.length = pd at lc lb
    refine ⟨_, rfl, _, rfl, by omega, by omega, fun F hF => lc_it (walk_range (lo := 0) (n := pd.toNat)) (fun i H' => Same H H' ∧ H' F = some (.lst (((List.range i).map fun (j : Nat) => t (flagAt fl j) (flagAt gl j)).map V.bl))) ⟨Same.new hF, upd_same⟩ (fun _ _ _ _ => trivial) ?_ ?_⟩
    · rintro i x H5 H6 hi ⟨e5, hl5⟩ ⟨eH, rfl⟩
      have eH2 : H5 = H6 := eH.symm
      subst eH2
      have hp5 := e5 _ _ hp
      have hq5 := e5 _ _ hq
      have hA5 := e5 _ _ hA
      have hA15 := e5 _ _ hA1
      refine ⟨rfl, lcYes (iteT ⟨_, rfl, _, rfl, p, _, dx, _, _, rfl, hp5, T.c_Plainest, T.na_Plainest_flags, rfl, _, rfl, _, rfl, p, _, dx, _, _, rfl, hp5, T.c_Plainest, T.na_Plainest_period, rfl, _, _, rfl, rfl, by show (0 : Int) < (fl.length : Nat); omega, A0, _, _, _, rfl, rfl, SqL.of hA5, flag_ix fl0 _, .inr ⟨_, rfl, _, _, rfl, rfl, .inl ⟨by decide, by decide⟩, ?_⟩⟩)⟩
      refine ⟨_, rfl, q, _, dy, _, _, rfl, hq5, T.c_Plainest, T.na_Plainest_flags, rfl, _, rfl, _, rfl, q, _, dy, _, _, rfl, hq5, T.c_Plainest, T.na_Plainest_period, rfl, _, _, rfl, rfl, by show (0 : Int) < (gl.length : Nat); omega, A1, _, _, _, rfl, rfl, SqL.of hA15, flag_ix gl0 _, .inr ⟨_, rfl, _, _, rfl, rfl, tb, _, _, _, rfl, rfl, e5.sqt ht, tab_ix t _ _, _, hl5, ?_, e5.put hF, ?_⟩⟩
      · rw [List.length_map, List.length_map, List.length_range, sizeLine_eq]
        omega
      · rw [upd_same, List.range_succ, List.map_append, List.map_append, Int.zero_add]
        rfl
    rintro H1 ⟨e1, hF1⟩
    have hp1 := e1 _ _ hp
    have hq1 := e1 _ _ hq
    refine ⟨by decide, fun D hD => ?_⟩
    have e2 : Same H1 (upd H1 D (.lst [])) := Same.new hD
    have hD2 : upd H1 D (.lst []) D = some (.lst (([] : List Int).map V.int)) := upd_same
    have nDF : F ≠ D := ne_of_none hF1 hD
    generalize upd H1 D (.lst []) = H2 at e2 hD2
    have hp2 := e2 _ _ hp1
    have hq2 := e2 _ _ hq1
    have hB2 := e2.sqt (e1.sqt hB)
    have hB12 := e2.sqt (e1.sqt hB1)
    have lfx := cx.len
    have lgx := cy.len
    refine ⟨_, rfl, p, _, dx, _, _, rfl, hp2, T.c_Plainest, T.na_Plainest_flipped, rfl, B0, _, rfl, .inl hB2, _, rfl, q, _, dy, _, _, rfl, hq2, T.c_Plainest, T.na_Plainest_flipped, rfl, B1, _, rfl, .inl hB12, ?_, fun L hL => ?_⟩
    · show (fx.map V.int ++ (gx.map V.int ++ [])).length ≤ sizeLine
      rw [List.append_nil, List.length_append, List.length_map, List.length_map, sizeLine_eq]
      omega
    have eL : fx.map V.int ++ (gx.map V.int ++ []) = (fx ++ gx).map V.int := by rw [List.append_nil, List.map_append]
    rw [eL]
    have e3 : Same H2 (upd H2 L (.lst ((fx ++ gx).map V.int))) := Same.new hL
    have hL3 : upd H2 L (.lst ((fx ++ gx).map V.int)) L = some (.lst ((fx ++ gx).map V.int)) := upd_same
    generalize upd H2 L (.lst ((fx ++ gx).map V.int)) = H3 at e3 hL3
    refine ⟨L, fx ++ gx, rfl, SqL.of hL3, by rw [List.length_append]; omega, fun sp ks hsp hks1 hks2 => ?_⟩
    have e4 : Same H3 (upd H3 sp (SetO w sp (fun j => decide (j ∈ fx ++ gx)) ks.length)) := Same.new hsp
    have hs4 : upd H3 sp (SetO w sp (fun j => decide (j ∈ fx ++ gx)) ks.length) sp = some (SetO w sp (fun j => decide (j ∈ fx ++ gx)) ks.length) := upd_same
    generalize upd H3 sp (SetO w sp (fun j => decide (j ∈ fx ++ gx)) ks.length) = H4 at e4 hs4
    have ubd : ∀ d, d ∈ fx ++ gx → 1 ≤ d ∧ d ≤ 60 := fun d hd => by
      rcases List.mem_append.mp hd with h | h
      · exact cx.bd d h
      · exact cy.bd d h
    have lks : ks.length ≤ 60 := by
      have := sub_len (m := (List.range 60).map fun (i : Nat) => ((i + 1 : Nat) : Int)) hks1 fun x hx => by
        have := ubd x (hks2 x hx)
        exact List.mem_map.mpr ⟨(x - 1).toNat, List.mem_range.mpr (by omega), by omega⟩
      rw [List.length_map, List.length_range] at this
      exact this
    refine ⟨sp, _, _, rfl, hs4, by omega, fun ms M hms hmem hmlen hM => ?_⟩
    have e5 : Same H4 (upd H4 M (.lst (ms.map V.int))) := Same.new hM
    have hM5 : upd H4 M (.lst (ms.map V.int)) M = some (.lst (ms.map V.int)) := upd_same
    generalize upd H4 M (.lst (ms.map V.int)) = H5 at e5 hM5
    have e25 : Same H2 H5 := (e3.trans e4).trans e5
    have hD5 := e25 _ _ hD2
    have hF5 := e25 _ _ (e2 _ _ hF1)
    have hp5 := e25 _ _ hp2
    have hq5 := e25 _ _ hq2
    have e15 := e2.trans e25
    have e05 := e1.trans e15
    have hb5 : PlAt K H5 (.ref p) fl fx := PlAt.mono e05 ⟨p, dx, A0, B0, C0, rfl, hp, hA, hB⟩
    have hc5 : PlAt K H5 (.ref q) gl gx := PlAt.mono e05 ⟨q, dy, A1, B1, C1, rfl, hq, hA1, hB1⟩
    have ht5 := e05.sqt ht
    have mmem : ∀ d, d ∈ ms ↔ d ∈ fx ++ gx := fun d => by rw [hmem d, decide_eq_true_eq]
    generalize hhl : ((List.range pd.toNat).map fun (j : Nat) => t (flagAt fl j) (flagAt gl j)) = hl0 at hF5
    have hl0len : (hl0.length : Int) = pd := by
      rw [← hhl, List.length_map, List.length_range]
      omega
    have hl0flag : ∀ d, flagAt hl0 d = t (flagAt fl d) (flagAt gl d) := fun d => by
      have a0 : 0 ≤ d % pd := Int.emod_nonneg _ (by omega)
      have a1 : d % pd < pd := Int.emod_lt_of_pos _ (by omega)
      unfold flagAt
      rw [hl0len, ← hhl, List.getD_eq_getElem?_getD, List.getElem?_map, List.getElem?_range (by omega)]
      show t (flagAt fl ((d % pd).toNat : Int)) (flagAt gl ((d % pd).toNat : Int)) = _
      rw [Int.toNat_of_nonneg a0]
      have m1 : flagAt fl (d % pd) = flagAt fl d := flagAt_per (by
        have : d % pd - d = -(pd * (d / pd)) := by have := Int.mul_ediv_add_emod d pd; omega
        rw [this]
        exact Int.dvd_neg.mpr (Int.dvd_trans lc.2.1 (Int.dvd_mul_right ..)))
      have m2 : flagAt gl (d % pd) = flagAt gl d := flagAt_per (by
        have : d % pd - d = -(pd * (d / pd)) := by have := Int.mul_ediv_add_emod d pd; omega
        rw [this]
        exact Int.dvd_neg.mpr (Int.dvd_trans lc.2.2 (Int.dvd_mul_right ..)))
      rw [m1, m2]
      rfl
    have hl0pos : 1 ≤ hl0.length := by omega
    have back : ∀ H', Sx D H5 H' → Same H1 H' := fun H' e b u z => e b u (ne_of_none z hD) (e15 b u z)
    have flip : ∀ d, (t (memR fl fx d) (memR gl gx d) != flagAt hl0 d) = true → d ∈ fx ++ gx := fun d hd => by
      refine Classical.byContradiction fun hn => ?_
      rw [List.mem_append, not_or] at hn
      rw [hl0flag] at hd
      unfold memR at hd
      rw [decide_eq_false hn.1, decide_eq_false hn.2] at hd
      simp at hd
    refine ⟨M, rfl, ⟨_, SqL.of hM5⟩, for_it (walk_list (xs := ms.map V.int)) (fun i σ' H' => Sx D H5 H' ∧ (∃ x y, σ' = [some (.ref p), some (.ref q), some (.ref tb), some (.int pd), some (.ref F), some (.ref D), x, y, none]) ∧ H' D = some (.lst (((ms.take i).filter fun d => t (memR fl fx d) (memR gl gx d) != flagAt hl0 d).map V.int))) ?_ ?_ ?_ ?_⟩
    · exact ⟨fun _ _ _ z => z, ⟨none, none, rfl⟩, hD5⟩
    · rintro i σ' H' _ ⟨e6, _⟩
      have nMD : M ≠ D := fun z => by
        subst z
        rw [e3.trans e4 _ _ hD2] at hM
        cases hM
      exact SqL.of (e6 _ _ nMD hM5)
    · rintro i x σ' H6 H7 hi ⟨e6, ⟨x1, y1, rfl⟩, hD6⟩ ⟨eH, hx⟩
      have eH2 : H6 = H7 := eH.symm
      subst eH2
      have hi' : i < ms.length := by rw [List.length_map] at hi; exact hi
      rw [List.getElem?_map, List.getElem?_eq_getElem hi'] at hx
      cases hx
      have b6 : Same H1 H6 := back H6 e6
      have b06 := e1.trans b6
      have hb6 : PlAt K H6 (.ref p) fl fx := PlAt.mono b06 ⟨p, dx, A0, B0, C0, rfl, hp, hA, hB⟩
      have hc6 : PlAt K H6 (.ref q) gl gx := PlAt.mono b06 ⟨q, dy, A1, B1, C1, rfl, hq, hA1, hB1⟩
      have hp6 := b06 _ _ hp
      have hq6 := b06 _ _ hq
      have ht6 := b06.sqt ht
      have hF6 := b6 _ _ hF1
      rw [hhl] at hF6
      have htk : (ms.take (i + 1)).filter (fun d => t (memR fl fx d) (memR gl gx d) != flagAt hl0 d) = (ms.take i).filter (fun d => t (memR fl fx d) (memR gl gx d) != flagAt hl0 d) ++ (if (t (memR fl fx ms[i]) (memR gl gx ms[i]) != flagAt hl0 ms[i]) = true then [ms[i]] else []) := by
        rw [List.take_succ_eq_append_getElem hi', List.filter_append]
        congr 1
        rw [List.filter_cons]
        simp
      refine ⟨_, rfl, _, rfl, p, dx, _, rfl, hp6, rfl, _, rfl, .ref p, fl, fx, ms[i], rfl, hb6, fl0, .inr ⟨_, rfl, _, _, rfl, rfl, .inl ⟨by decide, by decide⟩, ?_⟩⟩
      refine ⟨_, rfl, q, dy, _, rfl, hq6, rfl, _, rfl, .ref q, gl, gx, ms[i], rfl, hc6, gl0, .inr ⟨_, rfl, _, _, rfl, rfl, tb, _, _, _, rfl, rfl, ht6, tab_ix t _ _, ?_⟩⟩
      refine ⟨_, rfl, _, rfl, _, rfl, _, rfl, _, _, rfl, rfl, by show (0 : Int) < pd; omega, F, _, _, _, rfl, rfl, SqL.of hF6, by rw [← hl0len]; exact flag_ix hl0pos _, rfl, _, rfl, ?_⟩
      have hne : (!decide (V.bl (t (memR fl fx ms[i]) (memR gl gx ms[i])) = V.bl (flagAt hl0 ms[i]))) = (t (memR fl fx ms[i]) (memR gl gx ms[i]) != flagAt hl0 ms[i]) := by
        cases t (memR fl fx ms[i]) (memR gl gx ms[i]) <;> cases flagAt hl0 ms[i] <;> rfl
      rw [hne]
      cases hc : (t (memR fl fx ms[i]) (memR gl gx ms[i]) != flagAt hl0 ms[i]) with
      | true =>
        rw [hc, if_pos rfl] at htk
        refine iteT ⟨_, rfl, .inl ⟨rfl, _, SqL.of hD6⟩, _, rfl, D, _, _, rfl, rfl, hD6, ?_, e6.put, ⟨_, _, rfl⟩, ?_⟩
        · rw [List.length_map, sizeLine_eq]
          have := List.length_filter_le (fun d => t (memR fl fx d) (memR gl gx d) != flagAt hl0 d) (ms.take i)
          rw [List.length_take] at this
          omega
        · rw [upd_same, htk, List.map_append]
          rfl
      | false =>
        rw [hc, if_neg Bool.false_ne_true, List.append_nil] at htk
        exact iteF ⟨e6, ⟨_, _, rfl⟩, by rw [htk]; exact hD6⟩
    · rintro σ' H6 ⟨e6, ⟨x1, y1, rfl⟩, hD6⟩
      rw [List.length_map, List.take_length] at hD6
      have b6 : Same H1 H6 := back H6 e6
      have hF6 := b6 _ _ hF1
      rw [hhl] at hF6
      generalize hhx : ms.filter (fun d => t (memR fl fx d) (memR gl gx d) != flagAt hl0 d) = hx0 at hD6
      have hx0mem : ∀ d, d ∈ hx0 ↔ (t (memR fl fx d) (memR gl gx d) != flagAt hl0 d) = true := fun d => by
        rw [← hhx, List.mem_filter, mmem]
        exact ⟨fun z => z.2, fun z => ⟨flip d z, z⟩⟩
      have canx : CanX hx0 := by
        refine ⟨?_, fun d hd => ?_⟩
        · rw [← hhx]
          exact hms.filter _
        · exact ubd d (flip d ((hx0mem d).mp hd))
      refine ⟨_, rfl, _, rfl, D, _, rfl, .inl ⟨SqL.of hD6, fun r hr' => ?_⟩⟩
      have e7 : Same H6 (upd H6 r (.tup (hx0.map V.int))) := Same.new hr'
      have hr7 : upd H6 r (.tup (hx0.map V.int)) r = some (.tup (hx0.map V.int)) := upd_same
      generalize upd H6 r (.tup (hx0.map V.int)) = H7 at e7 hr7
      have hF7 := e7 _ _ hF6
      intro x dx' hx hdx ne
      have nFx : F ≠ x := ne_of_none hF7 hx
      have nFd : F ≠ dx' := ne_of_none hF7 hdx
      have nrx : r ≠ x := ne_of_none hr7 hx
      have nrd : r ≠ dx' := ne_of_none hr7 hdx
      refine ⟨x, dx', F, r, hl0, hx0, rfl, upd_same, by rw [upd_ne nFx, upd_ne nFd]; exact hF7, SqT.of (by rw [upd_ne nrx, upd_ne nrd]; exact hr7), by rw [hl0len]; exact lc.1, fun H8 hl s8 hP hcan hflag => ⟨rfl, ?_⟩⟩
      have e8 : Same H7 H8 := Sx.made s8 hx hdx
      refine k H8 (.ref x) hl hx0 (((e1.trans b6).trans e7).trans e8) hP hcan canx fun d hd => ?_
      unfold memR
      rw [hflag]
      have : decide (d ∈ hx0) = (t (memR fl fx d) (memR gl gx d) != flagAt hl0 d) := by
        rw [Bool.eq_iff_iff, decide_eq_true_eq]
        exact hx0mem d
      rw [this]
      show (flagAt hl0 d != (t (memR fl fx d) (memR gl gx d) != flagAt hl0 d)) = t (memR fl fx d) (memR gl gx d)
      cases t (memR fl fx d) (memR gl gx d) <;> cases flagAt hl0 d <;> rfl
end
end Rln
end
section
set_option Elab.async false
set_option linter.all false
set_option maxRecDepth 100000
set_option maxHeartbeats 4000000
namespace Rln
open PySem PySem.Spec PyProof.Rows L2
theorem ints_ok : ∀ ns : List Int, PyData.canLayAll0 (ns.map PyData.int) = true ∧ PyData.depthAll (ns.map PyData.int) = 0
  | [] => ⟨by simp [PyData.canLayAll0], by simp [PyData.depthAll]⟩
  | b :: bs => by
    have := ints_ok bs
    exact ⟨by simp [PyData.canLayAll0, PyData.canLay0, this.1], by simp [PyData.depthAll, PyData.depth, this.2]⟩
theorem ints_eqv : ∀ a b : List Int, PyData.eqvAll (a.map PyData.int) (b.map PyData.int) = decide (a = b)
  | [], [] => by simp [PyData.eqvAll]
  | [], b :: bs => by simp [PyData.eqvAll]
  | a :: as, [] => by simp [PyData.eqvAll]
  | a :: as, b :: bs => by
    rw [List.map_cons, List.map_cons, PyData.eqvAll, ints_eqv as bs, Bool.eq_iff_iff]
    simp [PyData.eqv]
theorem ints_shaped (bs : List Int) : SeqAt.shaped (.tuple (bs.map PyData.int)) = true := by
  have := ints_ok bs
  unfold SeqAt.shaped
  rw [Bool.and_eq_true]
  exact ⟨by simp [PyData.canLay0, this.1], by simp [PyData.depth, this.2]⟩
section
variable {P : Program} {w : World} {K : PySem.W.Frag} {mg : Str → Option Value} {base : Heap}
theorem PlAt.sx {x C dx : Addr} {fs : List (Str × V)} {H H' : Hp} {v : V} {fl fx} (h : PlAt K H v fl fx) (hx : H x = some (.ins C dx fs)) (hne : ∀ p dx' fs', v = .ref p → H p = some (.ins (cPl K) dx' fs') → p ≠ x) (e : Sx x H H') : PlAt K H' v fl fx := by
  obtain ⟨p, dy, A, B, D, rfl, h1, h2, h3⟩ := h
  exact ⟨p, dy, A, B, D, rfl, e _ _ (hne _ _ _ rfl h1) h1, e _ _ (ne_of h2 hx (by intro z; cases z)) h2, SqT.sx h3 hx e⟩
theorem PlAt.len {H : Hp} {v : V} {fl fx} {p : Addr} {C dx : Addr} {fs : List (Str × V)} (h : PlAt K H v fl fx) (e : v = .ref p) (hp : H p = some (.ins C dx fs)) : fs.length = 4 := by
  obtain ⟨p', dy, A, B, D, e', h1, _⟩ := h
  rw [e] at e'
  cases e'
  have z := Option.some.inj (h1.symm.trans hp)
  injection z with _ _ z
  rw [← z]
  rfl
abbrev N_Distances_init : List Str := ["self", "modulus", "classes", "changed"]
theorem sc_Distances_init : FnScope N_Distances_init ["self", "modulus", "classes", "changed"] (defScope s_Distances_init) := ⟨rfl, rfl, rfl, by decide +kernel, rfl, by decide +kernel, by decide +kernel⟩
def spDistI (K : PySem.W.Frag) : Sp := fun vs H Q _ => ∃ (x dx : Addr) (m : V) (C G : Addr), vs = [.ref x, m, .ref C, .ref G] ∧ H x = some (.ins (cDist K) dx []) ∧
  ((∃ fl fx, PlAt K H m fl fx ∧ CanF fl ∧ CanX fx ∧ ∀ H', Sx x H H' → SetAt K H' (.ref x) (memR fl fx) → Q .non H') ∨
  (∃ (i : Int) (cs gs : List Int), m = .int i ∧ i ∈ D60 ∧ SqT K H C (cs.map V.int) ∧ SqT K H G (gs.map V.int) ∧ cs.Nodup ∧ (∀ c ∈ cs, 0 ≤ c ∧ c < i) ∧ gs.Nodup ∧ (∀ g ∈ gs, 1 ≤ g ∧ g ≤ 60) ∧
    ∀ H', Sx x H H' → SetAt K H' (.ref x) (fun d => decide (d % i ∈ cs) != decide (d ∈ gs)) → Q .non H'))
theorem body_Dist (T : Tx K mg) : BodyOk P w K mg base "Distances.__init__" s_Distances_init N_Distances_init (He.fAd K ("Distances", some "__init__")) 5 (spDistI K) := fun cdv A outer s H vs Q E hr h => by
  obtain ⟨x, dx, m, C, G, rfl, hx, h⟩ := h
  refine ⟨_, (pss_one (ps_fld (pv 0) (pe_ifExp (pt_val (pe_callB call_isi (by rfl) T.n_isinstance (by decide +kernel) (pa_cons (pv 1) (pa_cons (pe_glob (v := .ref _) (by rfl) T.g_Plainest rfl) pa_nil)))) (pv 1) (C8.pe_c (cal_checked T) hr (by decide) (by rfl) (pa_cons (pv 1) (pa_cons (pv 2) (pa_cons (pv 3) pa_nil))))) rfl)), ?_⟩
  rcases h with ⟨fl, fx, hP, cf, cx, k⟩ | ⟨i, cs, gs, rfl, hi, hC, hG, h1, h2, h3, h4, k⟩
  · obtain ⟨p, dy, A0, B, D, rfl, hp, hA, hB⟩ := id hP
    refine ⟨_, rfl, _, _, _, _, _, rfl, .own _, ty_ins T.ins_Pl hp, T.ins_Pl.me, _, rfl, iteT ⟨_, rfl, _, rfl, x, _, dx, _, rfl, hx, T.c_Distances, T.na_Distances_plain, by show 0 < 1000; decide, ?_⟩⟩
    have e : Sx x H (upd H x (.ins (cDist K) dx (putF "plain" (.ref p) []))) := fun b u n z => by rw [upd_ne n]; exact z
    have npx : p ≠ x := fun z => by
      subst z
      have := hP.len rfl hx
      cases this
    exact k _ e ⟨x, dx, .ref p, fl, fx, rfl, upd_same, hP.sx hx (fun p' _ _ e1 _ => by cases e1; exact npx) e, cf, cx, fun _ _ => rfl⟩
  · refine ⟨_, rfl, _, _, _, _, _, rfl, .own _, ty_flat rfl, T.k_intPl, _, rfl, iteF ⟨_, rfl, _, rfl, _, rfl, i, C, G, cs, gs, rfl, hi, hC, hG, h1, h2, h3, h4, fun H1 v fl fx e1 hP cf cx hfl hfx => ?_⟩⟩
    have e1 : Same H H1 := e1
    have hx1 := e1 _ _ hx
    refine ⟨_, rfl, x, _, dx, _, rfl, hx1, T.c_Distances, T.na_Distances_plain, by show 0 < 1000; decide, ?_⟩
    have e : Sx x H1 (upd H1 x (.ins (cDist K) dx (putF "plain" v []))) := fun b u n z => by rw [upd_ne n]; exact z
    refine k _ ((Same.sx e1).trans e) ⟨x, dx, v, fl, fx, rfl, upd_same, hP.sx hx1 (fun p' _ _ e1 hp z => ?_) e, cf, cx, fun d _ => ?_⟩
    · subst z
      have := hP.len e1 hx1
      cases this
    · unfold memR
      rw [hfl d]
      congr 1
      rw [Bool.eq_iff_iff, decide_eq_true_eq, decide_eq_true_eq]
      exact hfx d
theorem mak_Dist0 (T : Tx K mg) : Mak P w K mg base 6 "Distances" (cDist K) (spDistI K) [.int 1, .ref (He.dflAt ("Distances", some "__init__") 1 K), .ref (He.dflAt ("Distances", some "__init__") 2 K)] :=
  makDd 1 0 T.f_Distances_init (List.cons_ne_nil _ _) rfl T.mk_Distances T.g_Distances sc_Distances_init (fun vs H Q E h => by obtain ⟨x, dx, m, C, G, rfl, _⟩ := h; rfl)
    (fun _ _ _ _ _ _ _ us its h1 h2 => match us, its, h1, h2 with | [_], [_, _, _], _, _ => ⟨_, rfl, rfl⟩) (body_Dist T)
theorem mak_Dist1 (T : Tx K mg) : Mak P w K mg base 6 "Distances" (cDist K) (spDistI K) [.ref (He.dflAt ("Distances", some "__init__") 1 K), .ref (He.dflAt ("Distances", some "__init__") 2 K)] :=
  makDd 2 1 T.f_Distances_init (List.cons_ne_nil _ _) rfl T.mk_Distances T.g_Distances sc_Distances_init (fun vs H Q E h => by obtain ⟨x, dx, m, C, G, rfl, _⟩ := h; rfl)
    (fun _ _ _ _ _ _ _ us its h1 h2 => match us, its, h1, h2 with | [_, _], [_, _, _], _, _ => ⟨_, rfl, rfl⟩) (body_Dist T)
theorem mak_Dist3 (T : Tx K mg) : Mak P w K mg base 6 "Distances" (cDist K) (spDistI K) [] :=
  makDd 4 3 T.f_Distances_init (List.cons_ne_nil _ _) rfl T.mk_Distances T.g_Distances sc_Distances_init (fun vs H Q E h => by obtain ⟨x, dx, m, C, G, rfl, _⟩ := h; rfl)
    (fun _ _ _ _ _ _ _ us its h1 h2 => match us, its, h1, h2 with | [_, _, _, _], [_, _, _], _, _ => ⟨_, rfl, rfl⟩) (body_Dist T)
def spBin (K : PySem.W.Frag) (t : Bool → Bool → Bool) : Sp := fun vs H Q _ => ∃ u v S S', vs = [u, v] ∧ SetAt K H u S ∧ SetAt K H v S' ∧ ∀ H' r, Same H H' → SetAt K H' r (fun d => t (S d) (S' d)) → Q r H'
/-- what the three share -/
theorem bin_read (T : Tx K mg) (t : Bool → Bool → Bool) {tb : Addr} (ht : ∀ H, SqT K H tb [.bl (t false false), .bl (t false true), .bl (t true false), .bl (t true true)]) {H : Hp} {p q dx dy : Addr} {pl ql : V} {fl gl : List Bool} {fx gx : List Int} {S S' : Int → Bool} {Q : VK}
    (hP : PlAt K H pl fl fx) (hQ : PlAt K H ql gl gx) (cf : CanF fl) (cx : CanX fx) (cg : CanF gl) (cy : CanX gx) (hS : ∀ d, 1 ≤ d → memR fl fx d = S d) (hS' : ∀ d, 1 ≤ d → memR gl gx d = S' d)
    (k : ∀ H' r, Same H H' → SetAt K H' r (fun d => t (S d) (S' d)) → Q r H') :
    spJoined K [pl, ql, .ref tb] H (fun v H1 => ∀ x dx, H1 x = none → H1 dx = none → dx ≠ x → spDistI K (.ref x :: ([v] ++ [.ref (He.dflAt ("Distances", some "__init__") 1 K), .ref (He.dflAt ("Distances", some "__init__") 2 K)])) (upd (upd H1 dx (.own x)) x (.ins (cDist K) dx [])) (fun v H2 => v = .non ∧ Q (.ref x) H2) C8.E0) C8.E0 := by
  refine ⟨pl, ql, tb, t, fl, gl, fx, gx, rfl, hP, hQ, ht H, cf, cx, cg, cy, fun H1 v hl hx e1 hR ch cz hmem x dx hxn hdn ne => ?_⟩
  have up : Same H1 (upd (upd H1 dx (.own x)) x (.ins (cDist K) dx [])) := fun b u z => by
    rw [upd_ne (ne_of_none z hxn), upd_ne (ne_of_none z hdn)]
    exact z
  refine ⟨x, dx, v, _, _, rfl, upd_same, .inl ⟨hl, hx, hR.mono up, ch, cz, fun H2 s2 hs => ⟨rfl, ?_⟩⟩⟩
  refine k H2 _ (e1.trans (Sx.made s2 hxn hdn)) (hs.congr fun d hd => ?_)
  rw [hmem d hd, hS d hd, hS' d hd]
abbrev N_Distances_or : List Str := ["self", "other"]
theorem sc_Distances_or : FnScope N_Distances_or ["self", "other"] (defScope s_Distances_or) := ⟨rfl, rfl, rfl, by decide +kernel, rfl, by decide +kernel, by decide +kernel⟩
theorem met_or (T : Tx K mg) : Met P w K mg base 8 (cDist K) "__or__" (spBin K (· || ·)) [] := by
  refine metD T.f_Distances_or T.c_Distances T.m_Distances_or sc_Distances_or (fun vs H Q E h => ?_) (fun _ _ _ _ _ _ us hl => match us, hl with | [_, _], _ => rfl) (fun cdv A outer s H vs Q E hr h => ?_)
  · obtain ⟨u, v, _, _, rfl, _⟩ := h
    rfl
  · obtain ⟨u, v, S, S', rfl, ⟨p, dx, pl, fl, fx, rfl, hp, hP, cf, cx, hS⟩, ⟨q, dy, ql, gl, gx, rfl, hq, hQ, cg, cy, hS'⟩, k⟩ := h
    refine ⟨_, (pss_one (ps_ret (C8.pe_mk (mak_Dist1 T) hr (by decide) (by rfl) (pa_cons (C8.pe_c (cal_joined T) hr (by decide) (by rfl) (pa_cons (pe_fld (pv 0) rfl) (pa_cons (pe_fld (pv 1) rfl) (pa_cons (pe_glob (v := .ref _) (by rfl) T.g_UNION rfl) pa_nil)))) pa_nil)))), ?_⟩
    exact ⟨_, rfl, p, _, dx, _, _, rfl, hp, T.c_Distances, T.na_Distances_plain, rfl, _, rfl, q, _, dy, _, _, rfl, hq, T.c_Distances, T.na_Distances_plain, rfl,
      bin_read (p := p) (q := q) (dx := dx) (dy := dy) T (· || ·) T.t_UNION hP hQ cf cx cg cy hS hS' k⟩
abbrev N_Distances_and : List Str := ["self", "other"]
theorem sc_Distances_and : FnScope N_Distances_and ["self", "other"] (defScope s_Distances_and) := ⟨rfl, rfl, rfl, by decide +kernel, rfl, by decide +kernel, by decide +kernel⟩
theorem met_and (T : Tx K mg) : Met P w K mg base 8 (cDist K) "__and__" (spBin K (· && ·)) [] := by
  refine metD T.f_Distances_and T.c_Distances T.m_Distances_and sc_Distances_and (fun vs H Q E h => ?_) (fun _ _ _ _ _ _ us hl => match us, hl with | [_, _], _ => rfl) (fun cdv A outer s H vs Q E hr h => ?_)
  · obtain ⟨u, v, _, _, rfl, _⟩ := h
    rfl
  · obtain ⟨u, v, S, S', rfl, ⟨p, dx, pl, fl, fx, rfl, hp, hP, cf, cx, hS⟩, ⟨q, dy, ql, gl, gx, rfl, hq, hQ, cg, cy, hS'⟩, k⟩ := h
    refine ⟨_, (pss_one (ps_ret (C8.pe_mk (mak_Dist1 T) hr (by decide) (by rfl) (pa_cons (C8.pe_c (cal_joined T) hr (by decide) (by rfl) (pa_cons (pe_fld (pv 0) rfl) (pa_cons (pe_fld (pv 1) rfl) (pa_cons (pe_glob (v := .ref _) (by rfl) T.g_COMMON rfl) pa_nil)))) pa_nil)))), ?_⟩
    exact ⟨_, rfl, p, _, dx, _, _, rfl, hp, T.c_Distances, T.na_Distances_plain, rfl, _, rfl, q, _, dy, _, _, rfl, hq, T.c_Distances, T.na_Distances_plain, rfl,
      bin_read (p := p) (q := q) (dx := dx) (dy := dy) T (· && ·) T.t_COMMON hP hQ cf cx cg cy hS hS' k⟩
abbrev N_Distances_xor : List Str := ["self", "other"]
theorem sc_Distances_xor : FnScope N_Distances_xor ["self", "other"] (defScope s_Distances_xor) := ⟨rfl, rfl, rfl, by decide +kernel, rfl, by decide +kernel, by decide +kernel⟩
theorem met_xor (T : Tx K mg) : Met P w K mg base 8 (cDist K) "__xor__" (spBin K (· != ·)) [] := by
  refine metD T.f_Distances_xor T.c_Distances T.m_Distances_xor sc_Distances_xor (fun vs H Q E h => ?_) (fun _ _ _ _ _ _ us hl => match us, hl with | [_, _], _ => rfl) (fun cdv A outer s H vs Q E hr h => ?_)
  · obtain ⟨u, v, _, _, rfl, _⟩ := h
    rfl
  · obtain ⟨u, v, S, S', rfl, ⟨p, dx, pl, fl, fx, rfl, hp, hP, cf, cx, hS⟩, ⟨q, dy, ql, gl, gx, rfl, hq, hQ, cg, cy, hS'⟩, k⟩ := h
    refine ⟨_, (pss_one (ps_ret (C8.pe_mk (mak_Dist1 T) hr (by decide) (by rfl) (pa_cons (C8.pe_c (cal_joined T) hr (by decide) (by rfl) (pa_cons (pe_fld (pv 0) rfl) (pa_cons (pe_fld (pv 1) rfl) (pa_cons (pe_glob (v := .ref _) (by rfl) T.g_IN_ONE rfl) pa_nil)))) pa_nil)))), ?_⟩
    exact ⟨_, rfl, p, _, dx, _, _, rfl, hp, T.c_Distances, T.na_Distances_plain, rfl, _, rfl, q, _, dy, _, _, rfl, hq, T.c_Distances, T.na_Distances_plain, rfl,
      bin_read (p := p) (q := q) (dx := dx) (dy := dy) T (· != ·) T.t_IN_ONE hP hQ cf cx cg cy hS hS' k⟩
abbrev N_Distances_invert : List Str := ["self", "flag"]
theorem sc_Distances_invert : FnScope N_Distances_invert ["self"] (defScope s_Distances_invert) := ⟨rfl, rfl, rfl, by decide +kernel, rfl, by decide +kernel, by decide +kernel⟩
def spInv (K : PySem.W.Frag) : Sp := fun vs H Q _ => ∃ u S, vs = [u] ∧ SetAt K H u S ∧ ∀ H' r, Same H H' → SetAt K H' r (fun d => !S d) → Q r H'
theorem met_inv (T : Tx K mg) : Met P w K mg base 8 (cDist K) "__invert__" (spInv K) [] := by
  refine metD T.f_Distances_invert T.c_Distances T.m_Distances_invert sc_Distances_invert (fun vs H Q E h => ?_) (fun _ _ _ _ _ _ us hl => match us, hl with | [_], _ => rfl) (fun cdv A outer s H vs Q E hr h => ?_)
  · obtain ⟨u, _, rfl, _⟩ := h
    rfl
  · obtain ⟨u, S, rfl, ⟨p, dx, pl, fl, fx, rfl, hp, ⟨q, dy, A0, B, C, rfl, hq, hA, hB⟩, cf, cx, hS⟩, k⟩ := h
    refine ⟨_, (pss_one (ps_ret (C8.pe_mk (mak_Dist1 T) hr (by decide) (by rfl) (pa_cons (C8.pe_mk (mak_Pl T) hr (by decide) (by rfl) (pa_cons (pe_lc (own := [("flag", 1)]) rfl sc_Distances_invert.nd (pi_list (pe_fld (pe_fld (pv 0) rfl) rfl)) (blkOk_by (N := N_Distances_invert) (sc := defScope s_Distances_invert) (own := [("flag", 1)]) (by decide +kernel)) (fun _ _ _ _ _ => (pg_name (i := 1) sc_Distances_invert.nd rfl (Or.inl rfl))) (fun _ _ _ _ _ => pts_nil) (fun _ _ _ _ _ => (pe_not (pv 1)))) (pa_cons (pe_fld (pe_fld (pv 0) rfl) rfl) pa_nil))) pa_nil)))), ?_⟩
    have fb := D60_ne cf.d
    refine ⟨_, rfl, p, _, dx, _, _, rfl, hp, T.c_Distances, T.na_Distances_plain, rfl, q, _, dy, _, _, rfl, hq, T.c_Plainest, T.na_Plainest_flags, rfl, A0, rfl, ⟨_, SqL.of hA⟩, fun D hD => lc_it (walk_list (xs := fl.map V.bl)) (fun i H' => Same H H' ∧ H' D = some (.lst (((fl.take i).map not).map V.bl))) ⟨Same.new hD, upd_same⟩ (fun i H' _ h => SqL.of (h.1 _ _ hA)) ?_ ?_⟩
    · rintro i x H2 H3 hi ⟨e2, hl2⟩ ⟨eH, hx⟩
      have eH2 : H2 = H3 := eH.symm
      subst eH2
      have hi' : i < fl.length := by rw [List.length_map] at hi; exact hi
      rw [List.getElem?_map, List.getElem?_eq_getElem hi'] at hx
      cases hx
      refine ⟨rfl, lcYes (iteT ⟨_, rfl, _, rfl, _, hl2, ?_, e2.put hD, ?_⟩)⟩
      · rw [List.length_map, List.length_map, List.length_take, sizeLine_eq]
        omega
      · rw [upd_same, List.take_succ_eq_append_getElem hi', List.map_append, List.map_append]
        rfl
    rintro H1 ⟨e1, hl1⟩
    rw [List.length_map, List.take_length] at hl1
    refine ⟨_, rfl, p, _, dx, _, _, rfl, e1 _ _ hp, T.c_Distances, T.na_Distances_plain, rfl, q, _, dy, _, _, rfl, e1 _ _ hq, T.c_Plainest, T.na_Plainest_flipped, rfl, ?_⟩
    intro y ddy hy hdy ne
    have up : Same H1 (upd (upd H1 ddy (.own y)) y (.ins (cPl K) ddy [])) := fun b u z => by
      rw [upd_ne (ne_of_none z hy), upd_ne (ne_of_none z hdy)]
      exact z
    have flen : (((fl.map not).length : Nat) : Int) ∈ D60 := by rw [List.length_map]; exact cf.d
    refine ⟨y, ddy, D, B, fl.map not, fx, rfl, upd_same, up _ _ hl1, up.sqt (e1.sqt hB), flen, fun H2 gl s2 hP cg hflag => ⟨rfl, ?_⟩⟩
    have e2 : Same H1 H2 := Sx.made s2 hy hdy
    intro x dx' hx hdx ne'
    have up2 : Same H2 (upd (upd H2 dx' (.own x)) x (.ins (cDist K) dx' [])) := fun b u z => by
      rw [upd_ne (ne_of_none z hx), upd_ne (ne_of_none z hdx)]
      exact z
    refine ⟨x, dx', .ref y, _, _, rfl, upd_same, .inl ⟨gl, fx, hP.mono up2, cg, cx, fun H3 s3 hs => ⟨rfl, ?_⟩⟩⟩
    refine k H3 _ ((e1.trans e2).trans (Sx.made s3 hx hdx)) (hs.congr fun d hd => ?_)
    rw [← hS d hd]
    unfold memR
    rw [hflag]
    have : flagAt (fl.map not) d = !flagAt fl d := by
      have a0 : 0 ≤ d % (fl.length : Int) := Int.emod_nonneg _ (by omega)
      have a1 : d % (fl.length : Int) < fl.length := Int.emod_lt_of_pos _ (by omega)
      unfold flagAt
      rw [List.length_map, List.getD_eq_getElem?_getD, List.getD_eq_getElem?_getD, List.getElem?_map, List.getElem?_eq_getElem (by omega)]
      rfl
    rw [this]
    cases flagAt fl d <;> cases decide (d ∈ fx) <;> rfl
abbrev N_Distances_eq : List Str := ["self", "other"]
theorem sc_Distances_eq : FnScope N_Distances_eq ["self", "other"] (defScope s_Distances_eq) := ⟨rfl, rfl, rfl, by decide +kernel, rfl, by decide +kernel, by decide +kernel⟩
def spEq (K : PySem.W.Frag) : Sp := fun vs H Q _ => ∃ u v S S', vs = [u, v] ∧ SetAt K H u S ∧ SetAt K H v S' ∧ ∀ b : Bool, ((∀ d, 1 ≤ d → S d = S' d) → b = true) → Q (.bl b) H
theorem met_eq (T : Tx K mg) : Met P w K mg base 1 (cDist K) "__eq__" (spEq K) [] := by
  refine metD T.f_Distances_eq T.c_Distances T.m_Distances_eq sc_Distances_eq (fun vs H Q E h => ?_) (fun _ _ _ _ _ _ us hl => match us, hl with | [_, _], _ => rfl) (fun cdv A outer s H vs Q E hr h => ?_)
  · obtain ⟨u, v, _, _, rfl, _⟩ := h
    rfl
  · obtain ⟨u, v, S, S', rfl, ⟨p, dx, pl, fl, fx, rfl, hp, ⟨p1, dp, A0, B0, C0, rfl, hpl, hA0, hB0⟩, cf, cx, hS⟩, ⟨q, dy, ql, gl, gx, rfl, hq, ⟨q1, dq, A1, B1, C1, rfl, hql, hA1, hB1⟩, cg, cy, hS'⟩, k⟩ := h
    refine ⟨_, (pss_cons (ps_if (pt_not (pt_val (pe_callB call_isi (by rfl) T.n_isinstance (by decide +kernel) (pa_cons (pv 1) (pa_cons (pe_glob (v := .ref _) (by rfl) T.g_Distances rfl) pa_nil))))) (pss_one (ps_ret pe_bl)) pss_nil)
      (pss_one (ps_ret (pe_and (pe_cmpR (op_eqD hr.units) (pe_fld (pe_fld (pv 0) rfl) rfl) (pe_fld (pe_fld (pv 1) rfl) rfl) (nomark _)) (pe_one (pe_cmpR (op_eqD hr.units) (pe_fld (pe_fld (pv 0) rfl) rfl) (pe_fld (pe_fld (pv 1) rfl) rfl) (nomark _))))))), ?_⟩
    refine ⟨_, rfl, _, _, _, _, _, rfl, .own _, ty_ins T.ins_Dist hq, T.ins_Dist.me, _, rfl, iteF ?_⟩
    refine ⟨_, rfl, p, _, dx, _, _, rfl, hp, T.c_Distances, T.na_Distances_plain, rfl, p1, _, dp, _, _, rfl, hpl, T.c_Plainest, T.na_Plainest_flags, rfl, _, rfl, q, _, dy, _, _, rfl, hq, T.c_Distances, T.na_Distances_plain, rfl, q1, _, dq, _, _, rfl, hql, T.c_Plainest, T.na_Plainest_flags, rfl, ?_⟩
    refine ⟨.list (fl.map .bool), .list (gl.map .bool), .lst (SqL.of hA0) (bools_dp _), .lst (SqL.of hA1) (bools_dp _), bools_shaped _, bools_shaped _, _, rfl, ?_⟩
    have e1 : PyData.eqv (.list (fl.map .bool)) (.list (gl.map .bool)) = decide (fl = gl) := by
      rw [PyData.eqv]
      exact bools_eqv _ _
    rw [e1]
    have can : (∀ d, 1 ≤ d → S d = S' d) → fl = gl ∧ fx = gx := fun h => canon cf cx cg cy fun d hd => by rw [hS d hd, hS' d hd]; exact h d hd
    by_cases c : fl = gl
    · refine iteTd (decide_eq_true c) ?_
      refine ⟨_, rfl, p, _, dx, _, _, rfl, hp, T.c_Distances, T.na_Distances_plain, rfl, p1, _, dp, _, _, rfl, hpl, T.c_Plainest, T.na_Plainest_flipped, rfl, _, rfl, q, _, dy, _, _, rfl, hq, T.c_Distances, T.na_Distances_plain, rfl, q1, _, dq, _, _, rfl, hql, T.c_Plainest, T.na_Plainest_flipped, rfl, ?_⟩
      refine ⟨.tuple (fx.map .int), .tuple (gx.map .int), .tup hB0 (ints_dp _), .tup hB1 (ints_dp _), ints_shaped _, ints_shaped _, ?_⟩
      have e2 : PyData.eqv (.tuple (fx.map .int)) (.tuple (gx.map .int)) = decide (fx = gx) := by
        rw [PyData.eqv]
        exact ints_eqv _ _
      rw [e2]
      exact k _ fun h => decide_eq_true (can h).2
    · exact iteFd (decide_eq_false c) (k _ fun h => absurd (can h).1 c)
end
end Rln
end
section
set_option Elab.async false
set_option linter.all false
set_option maxRecDepth 100000
set_option maxHeartbeats 4000000
namespace Rln
open PySem PySem.Spec PyProof.Rows L2
/-! ### the line, told by the story -/
def absP (d : Int) (p : Int × Int) : Int := (p.1 * d + p.2) % (2 * d)
theorem emod_of {a b m : Int} (h : m ∣ a - b) : a % m = b % m := Int.emod_eq_emod_iff_emod_sub_eq_zero.mpr (Int.emod_eq_zero_of_dvd h)
theorem dvd_of {a b m : Int} (h : a % m = b % m) : m ∣ a - b := Int.dvd_of_emod_eq_zero (Int.emod_eq_emod_iff_emod_sub_eq_zero.mp h)
theorem two_mul_dvd (d k : Int) : 2 * d ∣ 2 * k * d := ⟨k, by rw [Int.mul_assoc, Int.mul_assoc, Int.mul_comm k d]⟩
theorem absP_mod (a n d : Int) : absP d (a % 2, n) = (a * d + n) % (2 * d) := by
  unfold absP
  refine emod_of ?_
  have e := Int.mul_ediv_add_emod a 2
  have h : (a % 2) * d + n - (a * d + n) = -(2 * (a / 2) * d) := by
    have : a % 2 = a - 2 * (a / 2) := by omega
    rw [this, Int.sub_mul]
    omega
  show 2 * d ∣ (a % 2) * d + n - (a * d + n)
  rw [h]
  exact Int.dvd_neg.mpr (two_mul_dvd d _)
theorem absP_moved (d : Int) (p : Int × Int) (h n : Int) : absP d (moved p h n) = (absP d p + h * d + n) % (2 * d) := by
  unfold moved
  rw [absP_mod]
  unfold absP
  rw [Int.add_assoc, Int.emod_add_emod]
  congr 1
  rw [Int.add_mul]
  omega
theorem small0 {d x : Int} (hd : 0 < d) (h : d ∣ x) (h1 : -d < x) (h2 : x < d) : x = 0 := by
  obtain ⟨k, rfl⟩ := h
  have : k = 0 := by
    rcases Int.lt_trichotomy k 0 with hk | hk | hk
    · exfalso
      have : d * k ≤ d * (-1) := Int.mul_le_mul_of_nonneg_left (by omega) (by omega)
      omega
    · exact hk
    · exfalso
      have : d * 1 ≤ d * k := Int.mul_le_mul_of_nonneg_left (by omega) (by omega)
      omega
  rw [this, Int.mul_zero]
theorem absP_inj {d : Int} {p q : Int × Int} (hd : 0 < d) (hp : p.1 = 0 ∨ p.1 = 1) (hq : q.1 = 0 ∨ q.1 = 1) (h1 : -d < p.2 - q.2) (h2 : p.2 - q.2 < d) (h : absP d p = absP d q) : p = q := by
  obtain ⟨a, m⟩ := p
  obtain ⟨b, n⟩ := q
  simp only at hp hq h1 h2
  have hdv : 2 * d ∣ a * d + m - (b * d + n) := dvd_of h
  have hd1 : d ∣ a * d + m - (b * d + n) := Int.dvd_trans ⟨2, Int.mul_comm 2 d⟩ hdv
  have hdd : d ∣ m - n := by
    have e : m - n = (a * d + m - (b * d + n)) - (a - b) * d := by rw [Int.sub_mul]; omega
    rw [e]
    exact Int.dvd_sub hd1 ⟨a - b, Int.mul_comm _ _⟩
  have e2 : m = n := by have := small0 hd hdd h1 h2; omega
  subst e2
  have e3 : a * d + m - (b * d + m) = (a - b) * d := by rw [Int.sub_mul]; omega
  rw [e3] at hdv
  obtain ⟨k, hk⟩ := hdv
  have e4 : a - b = 2 * k := by
    have : (a - b) * d = (2 * k) * d := by rw [hk, Int.mul_assoc, Int.mul_assoc, Int.mul_comm d k]
    exact Int.eq_of_mul_eq_mul_right (by omega) this
  have : a = b := by omega
  rw [this]
theorem absP_in {d : Int} (hd : 0 < d) (p : Int × Int) : 0 ≤ absP d p ∧ absP d p < 2 * d := ⟨Int.emod_nonneg _ (by omega), Int.emod_lt_of_pos _ (by omega)⟩
theorem whoAt_map {β : Type} [DecidableEq β] (f : β → Int) (y : Int) (x : β) : ∀ l : List (Str × β), (∀ q ∈ l, f q.2 = y ↔ q.2 = x) → whoAt (l.map fun q => (q.1, f q.2)) y = whoAt l x
  | [], _ => rfl
  | q :: l, h => by
    have ih := whoAt_map f y x l fun q hq => h q (List.mem_cons_of_mem _ hq)
    have hq := h q (List.mem_cons_self ..)
    unfold whoAt at *
    rw [List.map_cons, List.find?_cons, List.find?_cons]
    by_cases e : q.2 = x
    · rw [decide_eq_true (hq.mpr e), decide_eq_true e]
      rfl
    · rw [decide_eq_false (fun z => e (hq.mp z)), decide_eq_false e]
      exact ih
theorem getK_map {β γ : Type} (f : β → γ) (t : Str) : ∀ l : List (Str × β), getK (l.map fun q => (q.1, f q.2)) t = (getK l t).map f
  | [] => rfl
  | q :: l => by
    have ih := getK_map f t l
    unfold getK at *
    rw [List.map_cons, List.find?_cons, List.find?_cons]
    by_cases e : q.1 = t
    · simp [e]
    · simp only [e, decide_false]
      exact ih
theorem delK_map {β γ : Type} (f : β → γ) (t : Str) (l : List (Str × β)) : delK (l.map fun q => (q.1, f q.2)) t = (delK l t).map fun q => (q.1, f q.2) := by
  unfold delK
  rw [List.filter_map]
  rfl
structure Rel (d B : Int) (l : LW Str) (s : SW Str) : Prop where
  st : l.stand = absP d s.stand
  hu : l.hung = s.hung.map fun q => (q.1, absP d q.2)
  ok : SWOk B s
theorem b2_d (far : Bool) (d : Int) : b2 far * d = if far = true then d else 0 := by cases far <;> simp [b2]
section
variable {d B : Int} {l : LW Str} {s : SW Str}
theorem Rel.spot (R : Rel d B l s) (far : Bool) : spotL d l far = absP d (spotS s far) := by
  unfold spotL spotS
  rw [absP_moved, R.st, b2_d, Int.add_zero]
theorem Rel.inj (R : Rel d B l s) (hd : 2 * B < d) (far : Bool) {q : Str × (Int × Int)} (hq : q ∈ s.hung) : absP d q.2 = absP d (spotS s far) ↔ q.2 = spotS s far := by
  have h1 := (R.ok.gd q hq).2
  have h2 := R.ok.s1
  have b0 := R.ok.b0
  constructor
  · refine absP_inj (by omega) h1.1 ?_ ?_ ?_
    · show (s.stand.1 + b2 far) % 2 = 0 ∨ (s.stand.1 + b2 far) % 2 = 1
      omega
    · show -d < q.2.2 - (s.stand.2 + 0)
      omega
    · show q.2.2 - (s.stand.2 + 0) < d
      omega
  · intro e
    rw [e]
theorem Rel.thing (R : Rel d B l s) (hd : 2 * B < d) (far : Bool) : thingL d l far = thingS s far := by
  unfold thingL thingS
  rw [R.hu, R.spot]
  exact whoAt_map (absP d) _ _ _ fun q hq => R.inj hd far hq
theorem Rel.get (R : Rel d B l s) (t : Str) : getK l.hung t = (getK s.hung t).map (absP d) := by
  rw [R.hu]
  exact getK_map (absP d) t _
theorem firstN_congr {f g : Nat → Bool} {n : Nat} (h : ∀ i, i < n → f i = g i) : firstN f n = firstN g n := by
  unfold firstN
  congr 1
  have : ∀ l : List Nat, (∀ i ∈ l, f i = g i) → l.find? (fun i => f i) = l.find? (fun i => g i) := fun l => by
    induction l with
    | nil => intro _; rfl
    | cons a l ih =>
      intro hl
      rw [List.find?_cons, List.find?_cons, hl a (List.mem_cons_self ..), ih fun i hi => hl i (List.mem_cons_of_mem _ hi)]
  exact this _ fun i hi => h i (List.mem_range.mp hi)
theorem Rel.free (R : Rel d B l s) (hd : 2 * B + (s.hung.length : Int) < d) (far : Bool) : nL d l far = nS s far := by
  unfold nL nS
  have hl : l.hung.length = s.hung.length := by rw [R.hu, List.length_map]
  rw [hl]
  refine firstN_congr fun i hi => ?_
  have h2 := R.ok.s1
  have b0 := R.ok.b0
  unfold freeL freeS
  congr 1
  rw [R.hu]
  refine whoAt_map (absP d) _ _ _ fun q hq => ?_
  have h1 := (R.ok.gd q hq).2
  have e : (l.stand + (i : Int) + if far = true then d else 0) % (2 * d) = absP d ((s.stand.1 + b2 far) % 2, s.stand.2 + (i : Int)) := by
    have := absP_moved d s.stand (b2 far) i
    unfold moved at this
    rw [this, R.st, b2_d]
    congr 1
    omega
  rw [e]
  constructor
  · refine absP_inj (by omega) h1.1 ?_ ?_ ?_
    · show (s.stand.1 + b2 far) % 2 = 0 ∨ (s.stand.1 + b2 far) % 2 = 1
      omega
    · show -d < q.2.2 - (s.stand.2 + i)
      omega
    · show q.2.2 - (s.stand.2 + i) < d
      omega
  · intro e
    rw [e]
/-! the walk -/
def lenW (d : Int) (w : Int × Int) : Int := w.2 + w.1 * d
theorem first_gap (R : Rel d B l s) (far : Bool) (q : Int × Int) (st : Int) : firstL d l far (absP d q) st = ((gapS s far q).1 * d + if st > 0 then (gapS s far q).2 else -(gapS s far q).2) % (2 * d) := by
  unfold firstL
  rw [R.spot]
  have key : ∃ k, absP d q - absP d (spotS s far) = (gapS s far q).1 * d + (gapS s far q).2 + 2 * k * d := by
    unfold absP gapS
    have e1 := Int.mul_ediv_add_emod (q.1 * d + q.2) (2 * d)
    have e2 := Int.mul_ediv_add_emod ((spotS s far).1 * d + (spotS s far).2) (2 * d)
    have e3 := Int.mul_ediv_add_emod (q.1 - (spotS s far).1) 2
    refine ⟨-((q.1 * d + q.2) / (2 * d)) + ((spotS s far).1 * d + (spotS s far).2) / (2 * d) + (q.1 - (spotS s far).1) / 2, ?_⟩
    generalize (q.1 * d + q.2) / (2 * d) = x1 at *
    generalize ((spotS s far).1 * d + (spotS s far).2) / (2 * d) = x2 at *
    generalize hx3 : (q.1 - (spotS s far).1) / 2 = x3 at *
    have e4 : (q.1 - (spotS s far).1) % 2 = q.1 - (spotS s far).1 - 2 * x3 := by omega
    show _ = ((q.1 - (spotS s far).1) % 2) * d + (q.2 - (spotS s far).2) + 2 * (-x1 + x2 + x3) * d
    rw [e4]
    have f1 : 2 * d * x1 = 2 * (x1 * d) := by rw [Int.mul_assoc, Int.mul_comm d x1]
    have f2 : 2 * d * x2 = 2 * (x2 * d) := by rw [Int.mul_assoc, Int.mul_comm d x2]
    have f3 : (q.1 - (spotS s far).1 - 2 * x3) * d = q.1 * d - (spotS s far).1 * d - 2 * (x3 * d) := by rw [Int.sub_mul, Int.sub_mul, Int.mul_assoc]
    have f4 : 2 * (-x1 + x2 + x3) * d = -2 * (x1 * d) + 2 * (x2 * d) + 2 * (x3 * d) := by
      rw [Int.mul_assoc, Int.add_mul, Int.add_mul, Int.neg_mul]
      omega
    rw [f3, f4]
    omega
  obtain ⟨k, hk⟩ := key
  rw [hk]
  split
  · refine emod_of ?_
    have : (gapS s far q).1 * d + (gapS s far q).2 + 2 * k * d - ((gapS s far q).1 * d + (gapS s far q).2) = 2 * k * d := by omega
    rw [this]
    exact two_mul_dvd d k
  · refine emod_of ?_
    have : -((gapS s far q).1 * d + (gapS s far q).2 + 2 * k * d) - ((gapS s far q).1 * d + -(gapS s far q).2) = 2 * (-k - (gapS s far q).1) * d := by
      have f1 : 2 * k * d = 2 * (k * d) := Int.mul_assoc ..
      have f2 : 2 * (-k - (gapS s far q).1) * d = -2 * (k * d) - 2 * ((gapS s far q).1 * d) := by
        rw [Int.mul_assoc, Int.sub_mul, Int.neg_mul]
        omega
      rw [f1, f2]
      omega
    rw [this]
    exact two_mul_dvd d _
theorem find_map {α β : Type} (f : α → β) (p : β → Bool) : ∀ l : List α, (l.map f).find? p = (l.find? fun a => p (f a)).map f
  | [] => rfl
  | a :: l => by
    rw [List.map_cons, List.find?_cons, List.find?_cons, find_map f p l]
    cases p (f a) <;> rfl
theorem find_congr {α : Type} {p q : α → Bool} : ∀ {l : List α}, (∀ a ∈ l, p a = q a) → l.find? p = l.find? q
  | [], _ => rfl
  | a :: l, h => by
    rw [List.find?_cons, List.find?_cons, h a (List.mem_cons_self ..), find_congr fun b hb => h b (List.mem_cons_of_mem _ hb)]
/-- the rounds of the one are the halves of the other -/
theorem rounds {r half num : Int} {size : Nat} (hd : 0 < d) (hs : 0 < size) (hdv : (size : Int) ∣ d - r) (hh : half = 0 ∨ half = 1) (h1 : -d < num) (h2 : num < d) :
    ((List.range size).find? fun (i : Nat) => decide (((half * d + num) % (2 * d) + (i : Int) * 2 * d) % (size : Int) = 0)).map (fun (i : Nat) => ((half * d + num) % (2 * d) + (i : Int) * 2 * d) / (size : Int)) =
      (wayS r half num size).map fun w => lenW d w / (size : Int) := by
  have ok : ∀ hv : Int, (num + hv * r) % (size : Int) = (num + hv * d) % (size : Int) := fun hv => emod_of (by
    have : num + hv * r - (num + hv * d) = -(hv * (d - r)) := by rw [Int.mul_sub]; omega
    rw [this]
    exact Int.dvd_neg.mpr (Int.dvd_trans hdv (Int.dvd_mul_left ..)))
  by_cases c : half = 0 ∧ num < 0
  · -- the first half is left out
    obtain ⟨rfl, hn⟩ := c
    have e1 : (0 * d + num) % (2 * d) = num + 2 * d := by
      have : (0 * d + num) % (2 * d) = (num + 2 * d) % (2 * d) := emod_of ⟨-1, by omega⟩
      rw [this]
      exact Int.emod_eq_of_lt (by omega) (by omega)
    rw [e1]
    unfold wayS
    rw [List.range_succ_eq_map, List.find?_cons]
    have w0 : wayOk r num size (0 + ((0 : Nat) : Int) * 2) = false := by
      unfold wayOk
      rw [decide_eq_false (by omega : ¬ (0 + ((0 : Nat) : Int) * 2 > 0)), decide_eq_false (by omega : ¬ num ≥ 0)]
      rfl
    rw [w0, find_map, Option.map_map, Option.map_map]
    have e2 : ∀ i : Nat, num + 2 * d + (i : Int) * 2 * d = lenW d (0 + ((i + 1 : Nat) : Int) * 2, num) := fun i => by
      unfold lenW
      have : (0 + ((i + 1 : Nat) : Int) * 2) * d = 2 * d + (i : Int) * 2 * d := by
        rw [Int.natCast_add, Int.zero_add, Int.add_mul, Int.add_mul]
        omega
      show _ = num + (0 + ((i + 1 : Nat) : Int) * 2) * d
      rw [this]
      omega
    rw [find_congr (q := fun i => wayOk r num size (0 + ((Nat.succ i : Nat) : Int) * 2)) fun i hi => ?_]
    · congr 1
      funext i
      rw [e2 i]
      rfl
    · rw [e2 i]
      unfold wayOk lenW
      rw [decide_eq_true (by omega : 0 + ((Nat.succ i : Nat) : Int) * 2 > 0), ok]
      rfl
  · -- all halves count
    have g : ∀ i : Nat, (decide (half + (i : Int) * 2 > 0) || decide (num ≥ 0)) = true := fun i => by
      rw [Bool.or_eq_true, decide_eq_true_eq, decide_eq_true_eq]
      omega
    have e1 : (half * d + num) % (2 * d) = half * d + num := by
      rcases hh with rfl | rfl
      · exact Int.emod_eq_of_lt (by omega) (by omega)
      · exact Int.emod_eq_of_lt (by omega) (by omega)
    rw [e1]
    have e2 : ∀ i : Nat, half * d + num + (i : Int) * 2 * d = lenW d (half + (i : Int) * 2, num) := fun i => by
      unfold lenW
      show _ = num + (half + (i : Int) * 2) * d
      rw [Int.add_mul]
      omega
    have e3 : ∀ i : Nat, wayOk r num size (half + (i : Int) * 2) = decide ((half * d + num + (i : Int) * 2 * d) % (size : Int) = 0) := fun i => by
      unfold wayOk
      rw [g i, Bool.true_and, ok, e2 i]
      rfl
    unfold wayS
    rw [List.range_succ, List.find?_append, Option.map_map]
    have e4 : (List.range size).find? (fun (i : Nat) => wayOk r num size (half + (i : Int) * 2)) = (List.range size).find? fun (i : Nat) => decide ((half * d + num + (i : Int) * 2 * d) % (size : Int) = 0) := find_congr fun i _ => e3 i
    rw [e4]
    cases e : (List.range size).find? fun (i : Nat) => decide ((half * d + num + (i : Int) * 2 * d) % (size : Int) = 0) with
    | some i =>
      show some ((half * d + num + (i : Int) * 2 * d) / (size : Int)) = some (lenW d (half + (i : Int) * 2, num) / (size : Int))
      rw [e2 i]
    | none =>
      have n0 := List.find?_eq_none.mp e 0 (List.mem_range.mpr hs)
      have : wayOk r num size (half + (size : Int) * 2) = false := by
        rw [e3]
        refine decide_eq_false fun z => n0 (decide_eq_true ?_)
        rw [← z]
        refine emod_of ?_
        have : half * d + num + ((0 : Nat) : Int) * 2 * d - (half * d + num + (size : Int) * 2 * d) = -((size : Int) * (2 * d)) := by
          rw [show ((0 : Nat) : Int) = 0 from rfl, Int.zero_mul, Int.zero_mul, Int.mul_assoc]
          omega
        rw [this]
        exact Int.dvd_neg.mpr (Int.dvd_mul_right ..)
      show none = Option.map _ (Option.or none ([size].find? _))
      rw [List.find?_cons, this]
      rfl
theorem gap_bd (R : Rel d B l s) (far : Bool) {q : Int × Int} (hq : (q.1 = 0 ∨ q.1 = 1) ∧ -B ≤ q.2 ∧ q.2 ≤ B) : ((gapS s far q).1 = 0 ∨ (gapS s far q).1 = 1) ∧ -(2 * B) ≤ (gapS s far q).2 ∧ (gapS s far q).2 ≤ 2 * B := by
  have h1 := R.ok.s1
  unfold gapS spotS moved
  refine ⟨?_, ?_, ?_⟩
  · show (q.1 - (s.stand.1 + b2 far) % 2) % 2 = 0 ∨ (q.1 - (s.stand.1 + b2 far) % 2) % 2 = 1
    omega
  · show -(2 * B) ≤ q.2 - (s.stand.2 + 0)
    omega
  · show q.2 - (s.stand.2 + 0) ≤ 2 * B
    omega
theorem times_way {r st : Int} (R : Rel d B l s) (hd : 4 * B < d) (hst : st ≠ 0) (hdv : (st.natAbs : Int) ∣ d - r) (far : Bool) {q : Int × Int} (hq : (q.1 = 0 ∨ q.1 = 1) ∧ -B ≤ q.2 ∧ q.2 ≤ B) :
    timesTo d l far (absP d q) st = (wayTo r s far st q).map fun w => lenW d w / (st.natAbs : Int) := by
  have b0 := R.ok.b0
  have g := gap_bd R far hq
  unfold timesTo wayTo
  rw [first_gap R far q st]
  refine rounds (by omega) (by omega) hdv g.1 ?_ ?_ <;> split <;> omega
/-- a way that is found -/
structure WayOk (d B st : Int) (x : (Int × Int) × (Int × Int)) : Prop where
  lo : -(2 * B) ≤ x.1.2
  hi : x.1.2 ≤ 2 * B
  dv : (st.natAbs : Int) ∣ lenW d x.1
theorem ways_ok {r st : Int} (R : Rel d B l s) (hd : 4 * B < d) (hst : st ≠ 0) (hdv : (st.natAbs : Int) ∣ d - r) (far : Bool) {x : (Int × Int) × (Int × Int)} (hx : x ∈ waysS r s far st) :
    WayOk d B st x ∧ (∃ q ∈ s.hung, q.2 = x.2) ∧ ∃ i : Int, x.1 = ((gapS s far x.2).1 + i * 2, if st > 0 then (gapS s far x.2).2 else -(gapS s far x.2).2) := by
  obtain ⟨q, hq, e⟩ := List.mem_filterMap.mp hx
  obtain ⟨wq, e1, e2⟩ := Option.map_eq_some_iff.mp e
  subst e2
  have g := gap_bd R far (R.ok.gd q hq).2
  unfold wayTo wayS at e1
  obtain ⟨i, hi, e3⟩ := Option.map_eq_some_iff.mp e1
  have hok := List.find?_some (p := fun (i : Nat) => wayOk r (if st > 0 then (gapS s far q.2).2 else -(gapS s far q.2).2) st.natAbs ((gapS s far q.2).1 + (i : Int) * 2)) hi
  subst e3
  refine ⟨⟨?_, ?_, ?_⟩, ⟨q, hq, rfl⟩, i, rfl⟩
  · dsimp only
    split <;> omega
  · dsimp only
    split <;> omega
  · unfold wayOk at hok
    rw [Bool.and_eq_true, decide_eq_true_eq] at hok
    have h1 := Int.dvd_of_emod_eq_zero hok.2
    unfold lenW
    dsimp only
    have : (if st > 0 then (gapS s far q.2).2 else -(gapS s far q.2).2) + ((gapS s far q.2).1 + (i : Int) * 2) * d = ((if st > 0 then (gapS s far q.2).2 else -(gapS s far q.2).2) + ((gapS s far q.2).1 + (i : Int) * 2) * r) + ((gapS s far q.2).1 + (i : Int) * 2) * (d - r) := by
      rw [Int.mul_sub]
      omega
    rw [this]
    exact Int.dvd_add h1 (Int.dvd_trans hdv (Int.dvd_mul_left ..))
theorem ltW_len {st : Int} (b0 : 0 ≤ B) (hd : 4 * B < d) {x y : (Int × Int) × (Int × Int)} (hx : WayOk d B st x) (hy : WayOk d B st y) :
    (ltW y x = true → lenW d y.1 ≤ lenW d x.1) ∧ (ltW y x = false → lenW d x.1 ≤ lenW d y.1) := by
  obtain ⟨⟨h1, n1⟩, p1⟩ := x
  obtain ⟨⟨h2, n2⟩, p2⟩ := y
  have a1 : -(2 * B) ≤ n1 := hx.lo
  have a2 : n1 ≤ 2 * B := hx.hi
  have a3 : -(2 * B) ≤ n2 := hy.lo
  have a4 : n2 ≤ 2 * B := hy.hi
  have mono : ∀ u v : Int, u < v → u * d + d ≤ v * d := fun u v h => by
    have : (u + 1) * d ≤ v * d := Int.mul_le_mul_of_nonneg_right (by omega) (by omega)
    rw [Int.add_mul] at this
    omega
  unfold ltW ltP lenW
  dsimp only
  rcases Int.lt_trichotomy h2 h1 with c | c | c
  · have := mono _ _ c
    refine ⟨fun _ => by omega, fun h => ?_⟩
    rw [Bool.or_eq_false_iff, decide_eq_false_iff_not] at h
    exact absurd (.inl c) h.1
  · subst c
    refine ⟨fun h => ?_, fun h => ?_⟩
    · rw [Bool.or_eq_true, decide_eq_true_eq] at h
      rcases h with h | h
      · omega
      · rw [Bool.and_eq_true, decide_eq_true_eq] at h
        have := congrArg Prod.snd h.1
        dsimp only at this
        omega
    · rw [Bool.or_eq_false_iff, decide_eq_false_iff_not] at h
      have := h.1
      omega
  · have := mono _ _ c
    refine ⟨fun h => ?_, fun _ => by omega⟩
    rw [Bool.or_eq_true, decide_eq_true_eq] at h
    rcases h with h | h
    · omega
    · rw [Bool.and_eq_true, decide_eq_true_eq] at h
      have := congrArg Prod.fst h.1
      dsimp only at this
      omega
theorem min_fold {st : Int} (b0 : 0 ≤ B) (hd : 4 * B < d) (hst : st ≠ 0) : ∀ (l : List ((Int × Int) × (Int × Int))) (x : (Int × Int) × (Int × Int)), WayOk d B st x → (∀ y ∈ l, WayOk d B st y) →
    (l.map fun y => lenW d y.1 / (st.natAbs : Int)).foldl min (lenW d x.1 / (st.natAbs : Int)) = lenW d (l.foldl (fun a y => if ltW y a then y else a) x).1 / (st.natAbs : Int)
  | [], x, _, _ => rfl
  | y :: l, x, hx, hl => by
    have hy := hl y (List.mem_cons_self ..)
    rw [List.map_cons, List.foldl_cons, List.foldl_cons]
    have k := ltW_len b0 hd hx hy
    have na : (0 : Int) < (st.natAbs : Int) := by omega
    cases c : ltW y x with
    | true =>
      have := Int.ediv_le_ediv na (k.1 c)
      rw [if_pos rfl, show min (lenW d x.1 / (st.natAbs : Int)) (lenW d y.1 / (st.natAbs : Int)) = lenW d y.1 / (st.natAbs : Int) by omega]
      exact min_fold b0 hd hst l y hy fun z hz => hl z (List.mem_cons_of_mem _ hz)
    | false =>
      have := Int.ediv_le_ediv na (k.2 c)
      rw [if_neg Bool.false_ne_true, show min (lenW d x.1 / (st.natAbs : Int)) (lenW d y.1 / (st.natAbs : Int)) = lenW d x.1 / (st.natAbs : Int) by omega]
      exact min_fold b0 hd hst l x hx fun z hz => hl z (List.mem_cons_of_mem _ hz)
theorem filterMap_congr' {α β : Type} {f g : α → Option β} : ∀ {l : List α}, (∀ a ∈ l, f a = g a) → l.filterMap f = l.filterMap g
  | [], _ => rfl
  | a :: l, h => by
    rw [List.filterMap_cons, List.filterMap_cons, h a (List.mem_cons_self ..), filterMap_congr' fun b hb => h b (List.mem_cons_of_mem _ hb)]
theorem min_ways {r st : Int} (R : Rel d B l s) (hd : 4 * B < d) (hst : st ≠ 0) (hdv : (st.natAbs : Int) ∣ d - r) (far : Bool) :
    minI (l.hung.filterMap fun p => timesTo d l far p.2 st) = (minW (waysS r s far st)).map fun x => lenW d x.1 / (st.natAbs : Int) := by
  have e : (l.hung.filterMap fun p => timesTo d l far p.2 st) = (waysS r s far st).map fun x => lenW d x.1 / (st.natAbs : Int) := by
    rw [R.hu, List.filterMap_map]
    unfold waysS
    rw [List.map_filterMap]
    refine filterMap_congr' fun q hq => ?_
    show timesTo d l far (absP d q.2) st = _
    rw [times_way R hd hst hdv far (R.ok.gd q hq).2, Option.map_map]
    rfl
  rw [e]
  have ok : ∀ x ∈ waysS r s far st, WayOk d B st x := fun x hx => (ways_ok R hd hst hdv far hx).1
  cases c : waysS r s far st with
  | nil => rfl
  | cons x xs =>
    rw [c] at ok
    rw [List.map_cons]
    show some _ = some _
    rw [min_fold R.ok.b0 hd hst xs x (ok x (List.mem_cons_self ..)) fun y hy => ok y (List.mem_cons_of_mem _ hy)]
end
end Rln
end
section
set_option Elab.async false
set_option linter.all false
set_option maxRecDepth 100000
set_option maxHeartbeats 4000000
namespace Rln
open PySem PySem.Spec PyProof.Rows L2
section
variable {d B c r : Int} {l : LW Str} {s : SW Str}
theorem Rel.more (R : Rel d B l s) {B' : Int} (h : B ≤ B') : Rel d B' l s := ⟨R.st, R.hu, R.ok.more h⟩
/-- what a deed does to both -/
def Stp (d B c r : Int) (l' : LW Str × TV Str) (s' : SW Str × TV Str) : Prop := Rel d B l'.1 s'.1 ∧ (s'.1.hung.length : Int) ≤ c ∧ compatV l'.2 s'.2
theorem bring_abs (R : Rel d B l s) (hd : 0 < d) (far : Bool) (q : Int × Int) (n : Int) (hn : 2 * d ∣ n - (absP d q - absP d (spotS s far))) : (l.stand + n) % (2 * d) = absP d (moved q (b2 far) 0) := by
  rw [absP_moved, R.st]
  refine emod_of ?_
  have e : 2 * d ∣ absP d s.stand + (if far = true then d else 0) - absP d (spotS s far) := by
    have := R.spot far
    unfold spotL at this
    rw [R.st] at this
    rw [← this]
    have h := Int.mul_ediv_add_emod (absP d s.stand + if far = true then d else 0) (2 * d)
    exact ⟨(absP d s.stand + if far = true then d else 0) / (2 * d), by omega⟩
  rw [b2_d]
  obtain ⟨k1, h1⟩ := hn
  obtain ⟨k2, h2⟩ := e
  have e3 : absP d s.stand + n - (absP d q + (if far = true then d else 0) + 0) = 2 * d * k1 + 2 * d * k2 - 2 * (if far = true then d else 0) := by omega
  rw [e3]
  refine Int.dvd_sub (Int.dvd_add (Int.dvd_mul_right ..) (Int.dvd_mul_right ..)) ?_
  split
  · exact Int.dvd_refl _
  · exact ⟨0, by omega⟩
theorem Rel.step (R : Rel d B l s) (h0 : 0 ≤ c) (hc : (s.hung.length : Int) ≤ c) {p : PD Str} (hp : pdOk p) (hdv : ∀ f st, p = .walk f st → (st.natAbs : Int) ∣ d - r) (hB : 4 * (reachStep (B, c) p).1 + 1 ≤ d) :
    Stp d (reachStep (B, c) p).1 (reachStep (B, c) p).2 r (tellPL d l p) (tellPS r s p) := by
  have b0 := R.ok.b0
  have s0 := R.ok.s0
  have s1 := R.ok.s1
  have len : l.hung.length = s.hung.length := by rw [R.hu, List.length_map]
  cases p with
  | pull n =>
    have hB : 4 * (B + n.natAbs) + 1 ≤ d := hB
    refine ⟨⟨?_, R.hu, ?_⟩, hc, rfl⟩
    · show (l.stand + n) % (2 * d) = absP d (moved s.stand 0 n)
      rw [absP_moved, R.st, Int.zero_mul, Int.add_zero]
    · exact (R.ok.more (B' := B + n.natAbs) (by omega)).at (by show (s.stand.1 + 0) % 2 = 0 ∨ (s.stand.1 + 0) % 2 = 1; omega) (by show -(B + n.natAbs) ≤ s.stand.2 + n; omega) (by show s.stand.2 + n ≤ B + n.natAbs; omega)
  | peg far t =>
    have hB : 4 * B + 1 ≤ d := hB
    have ht := R.thing (by omega) far
    have hg := R.get t
    dsimp only [tellPL, tellPS, reachStep]
    rw [ht, hg, Option.isSome_map]
    split
    · exact ⟨R, by show (s.hung.length : Int) ≤ c + 1; omega, rfl⟩
    · next hcn =>
      rw [Bool.or_eq_true, not_or] at hcn
      refine ⟨⟨R.st, ?_, ?_⟩, ?_, rfl⟩
      · show l.hung ++ [(t, spotL d l far)] = (s.hung ++ [(t, spotS s far)]).map _
        rw [List.map_append, R.hu, R.spot]
        rfl
      · exact R.ok.put (by simpa using hcn.1) hp (by show (s.stand.1 + b2 far) % 2 = 0 ∨ (s.stand.1 + b2 far) % 2 = 1; omega) (by show -B ≤ s.stand.2 + 0; omega) (by show s.stand.2 + 0 ≤ B; omega)
      · show ((s.hung ++ [(t, spotS s far)]).length : Int) ≤ c + 1
        rw [List.length_append]
        show ((s.hung.length + 1 : Nat) : Int) ≤ c + 1
        omega
  | hang far t =>
    have hB : 4 * (B + c) + 1 ≤ d := hB
    have hg := R.get t
    have hf := R.free (by omega) far
    have n4 : (nS s far : Int) ≤ c := by
      have : nS s far ≤ s.hung.length := firstN_le _ _
      omega
    dsimp only [tellPL, tellPS, reachStep]
    rw [hg, Option.isSome_map, hf, len, decide_eq_false (by omega : ¬ (s.hung.length : Int) = 2 * d), Bool.or_false]
    split
    · exact ⟨R.more (by omega), by show (s.hung.length : Int) ≤ c + 1; omega, rfl⟩
    · next hcn =>
      have hst : (l.stand + (nS s far : Int)) % (2 * d) = absP d (s.stand.1, s.stand.2 + (nS s far : Int)) := by
        have := absP_moved d s.stand 0 (nS s far)
        have e : moved s.stand 0 (nS s far) = (s.stand.1, s.stand.2 + (nS s far : Int)) := by
          unfold moved
          congr 1
          omega
        rw [e] at this
        rw [this, R.st, Int.zero_mul, Int.add_zero]
      refine ⟨⟨hst, ?_, ?_⟩, ?_, ⟨_, rfl⟩⟩
      · show l.hung ++ [(t, (l.stand + (nS s far : Int) + if far = true then d else 0) % (2 * d))] = (s.hung ++ [(t, ((s.stand.1 + b2 far) % 2, s.stand.2 + (nS s far : Int)))]).map _
        have e : (l.stand + (nS s far : Int) + if far = true then d else 0) % (2 * d) = absP d ((s.stand.1 + b2 far) % 2, s.stand.2 + (nS s far : Int)) := by
          have := absP_moved d s.stand (b2 far) (nS s far)
          unfold moved at this
          rw [this, R.st, b2_d]
          congr 1
          omega
        rw [List.map_append, R.hu, e]
        rfl
      · have ok4 := R.ok.more (B' := B + c) (by omega)
        exact (ok4.at (q := (s.stand.1, s.stand.2 + (nS s far : Int))) s0 (by show -(B + c) ≤ s.stand.2 + (nS s far : Int); omega) (by show s.stand.2 + (nS s far : Int) ≤ B + c; omega)).put (by simpa using hcn) hp
          (by show (s.stand.1 + b2 far) % 2 = 0 ∨ (s.stand.1 + b2 far) % 2 = 1; omega) (by show -(B + c) ≤ s.stand.2 + (nS s far : Int); omega) (by show s.stand.2 + (nS s far : Int) ≤ B + c; omega)
      · show ((s.hung ++ [(t, _)]).length : Int) ≤ c + 1
        rw [List.length_append]
        show ((s.hung.length + 1 : Nat) : Int) ≤ c + 1
        omega
  | fetch far t =>
    have hB : 4 * B + 1 ≤ d := hB
    have hg := R.get t
    dsimp only [tellPL, tellPS, reachStep]
    cases e : getK s.hung t with
    | none =>
      rw [e] at hg
      rw [hg]
      exact ⟨R, hc, rfl⟩
    | some q =>
      rw [e] at hg
      rw [hg]
      have gq := (R.ok.gd _ (getK_mem e)).2
      have g1 : q.1 = 0 ∨ q.1 = 1 := gq.1
      have g2 : -B ≤ q.2 := gq.2.1
      have g3 : q.2 ≤ B := gq.2.2
      refine ⟨⟨?_, R.hu, ?_⟩, hc, ⟨_, rfl⟩⟩
      · show (l.stand + (absP d q - spotL d l far) % (2 * d)) % (2 * d) = absP d (moved q (b2 far) 0)
        refine bring_abs R (by omega) far q _ ?_
        rw [R.spot]
        have h := Int.mul_ediv_add_emod (absP d q - absP d (spotS s far)) (2 * d)
        exact ⟨-((absP d q - absP d (spotS s far)) / (2 * d)), by rw [Int.mul_neg]; omega⟩
      · exact R.ok.at (by show (q.1 + b2 far) % 2 = 0 ∨ (q.1 + b2 far) % 2 = 1; omega) (by show -B ≤ q.2 + 0; omega) (by show q.2 + 0 ≤ B; omega)
  | take far =>
    have hB : 4 * B + 1 ≤ d := hB
    have ht := R.thing (by omega) far
    dsimp only [tellPL, tellPS, reachStep]
    rw [ht]
    cases e : thingS s far with
    | none => exact ⟨R, hc, rfl⟩
    | some t =>
      refine ⟨⟨R.st, ?_, ?_⟩, ?_, rfl⟩
      · show delK l.hung t = (delK s.hung t).map _
        rw [R.hu]
        exact delK_map (absP d) t _
      · exact ⟨b0, s0, s1, (List.filter_sublist.map _).nodup R.ok.nd, fun q hq => R.ok.gd q (List.mem_filter.mp hq).1⟩
      · have := List.length_filter_le (fun p : Str × (Int × Int) => !decide (p.1 = t)) s.hung
        show ((delK s.hung t).length : Int) ≤ c
        unfold delK
        omega
  | look far =>
    have hB : 4 * B + 1 ≤ d := hB
    have ht := R.thing (by omega) far
    dsimp only [tellPL, tellPS, reachStep]
    rw [ht]
    cases e : thingS s far with
    | none => exact ⟨R, hc, rfl⟩
    | some t => exact ⟨R, hc, rfl⟩
  | walk far st =>
    have hB : 4 * B + 1 ≤ d := hB
    have hst : st ≠ 0 := hp.1
    have dv := hdv far st rfl
    have hm := min_ways R (by omega) hst dv far
    dsimp only [tellPL, tellPS, reachStep]
    cases e : minW (waysS r s far st) with
    | none =>
      rw [e] at hm
      rw [hm]
      exact ⟨R, hc, rfl⟩
    | some x =>
      rw [e] at hm
      rw [hm]
      have hx : x ∈ waysS r s far st := by
        cases e2 : waysS r s far st with
        | nil => rw [e2] at e; cases e
        | cons y ys =>
          rw [e2] at e
          cases e
          have : ∀ (l : List ((Int × Int) × (Int × Int))) x, l.foldl (fun a y => if ltW y a then y else a) x ∈ x :: l := fun l => by
            induction l with
            | nil => intro x; exact List.mem_cons_self ..
            | cons y l ih =>
              intro x
              rw [List.foldl_cons]
              have := ih (if ltW y x then y else x)
              rcases List.mem_cons.mp this with e | e
              · rw [e]
                split
                · exact List.mem_cons_of_mem _ (List.mem_cons_self ..)
                · exact List.mem_cons_self ..
              · exact List.mem_cons_of_mem _ (List.mem_cons_of_mem _ e)
          exact this ys y
      obtain ⟨wk, ⟨q, hq, eq⟩, i, ei⟩ := ways_ok R (by omega) hst dv far hx
      have gq := (R.ok.gd _ hq).2
      rw [eq] at gq
      refine ⟨⟨?_, R.hu, ?_⟩, hc, ⟨_, rfl⟩⟩
      · show (l.stand + lenW d x.1 / (st.natAbs : Int) * st) % (2 * d) = absP d (moved x.2 (b2 far) 0)
        refine bring_abs R (by omega) far x.2 _ ?_
        have hf := first_gap R far x.2 1
        rw [if_pos (by decide)] at hf
        have h1 : 2 * d ∣ absP d x.2 - absP d (spotS s far) - ((gapS s far x.2).1 * d + (gapS s far x.2).2) := by
          unfold firstL at hf
          rw [if_pos (by decide), R.spot] at hf
          exact dvd_of hf
        have h2 : 2 * d ∣ lenW d x.1 / (st.natAbs : Int) * st - ((gapS s far x.2).1 * d + (gapS s far x.2).2) := by
          have ed := Int.ediv_mul_cancel wk.dv
          by_cases c1 : st > 0
          · have ea : (st.natAbs : Int) = st := by omega
            rw [ea] at ed ⊢
            rw [ed, ei, if_pos c1]
            unfold lenW
            refine ⟨i, ?_⟩
            show (gapS s far x.2).2 + ((gapS s far x.2).1 + i * 2) * d - _ = _
            rw [Int.add_mul, Int.mul_assoc, Int.mul_comm i, Int.mul_assoc]
            omega
          · have ea : (st.natAbs : Int) = -st := by omega
            have e5 : lenW d x.1 / (st.natAbs : Int) * st = -lenW d x.1 := by
              have : lenW d x.1 / (st.natAbs : Int) * st = -(lenW d x.1 / (st.natAbs : Int) * (st.natAbs : Int)) := by
                rw [ea, Int.mul_neg]
                omega
              rw [this, ed]
            rw [e5, ei, if_neg c1]
            unfold lenW
            refine ⟨-((gapS s far x.2).1 + i), ?_⟩
            show -(-(gapS s far x.2).2 + ((gapS s far x.2).1 + i * 2) * d) - _ = _
            have f1 : ((gapS s far x.2).1 + i * 2) * d = (gapS s far x.2).1 * d + 2 * (i * d) := by
              rw [Int.add_mul, Int.mul_comm i 2, Int.mul_assoc]
            have f2 : 2 * d * (-((gapS s far x.2).1 + i)) = -2 * ((gapS s far x.2).1 * d) - 2 * (i * d) := by
              rw [Int.mul_neg, Int.mul_assoc, Int.mul_add, Int.mul_comm d, Int.mul_comm d i]
              omega
            rw [f1, f2]
            omega
        have := Int.dvd_sub h2 h1
        have e6 : lenW d x.1 / (st.natAbs : Int) * st - ((gapS s far x.2).1 * d + (gapS s far x.2).2) - (absP d x.2 - absP d (spotS s far) - ((gapS s far x.2).1 * d + (gapS s far x.2).2)) = lenW d x.1 / (st.natAbs : Int) * st - (absP d x.2 - absP d (spotS s far)) := by omega
        rw [e6] at this
        exact this
      · exact R.ok.at (by show (x.2.1 + b2 far) % 2 = 0 ∨ (x.2.1 + b2 far) % 2 = 1; omega) (by show -B ≤ x.2.2 + 0; omega) (by show x.2.2 + 0 ≤ B; omega)
theorem reach_le (p : PD Str) (h0 : 0 ≤ c) : B ≤ (reachStep (B, c) p).1 ∧ c ≤ (reachStep (B, c) p).2 := by
  unfold reachStep
  split <;> constructor <;> dsimp only <;> omega
theorem Rel.stepD (R : Rel d B l s) (h0 : 0 ≤ c) (hc : (s.hung.length : Int) ≤ c) {x : Deed Str} (hp : deedOk x) (hdv : ∀ f st, x.inner = .walk f st → (st.natAbs : Int) ∣ d - r) (hB : 4 * (reachStep (B, c) x.inner).1 + 1 ≤ d) :
    Stp d (reachStep (B, c) x.inner).1 (reachStep (B, c) x.inner).2 r (tellL d l x) (tellS r s x) := by
  cases x with
  | pl p => exact R.step h0 hc hp hdv hB
  | whn f wh p =>
    have b0 := R.ok.b0
    have hle := reach_le (B := B) p h0
    have ht := R.thing (by have : 4 * (reachStep (B, c) p).1 + 1 ≤ d := hB; omega) f
    dsimp only [tellL, tellS]
    rw [ht]
    split
    · exact R.step h0 hc hp.2 hdv hB
    · exact ⟨R.more hle.1, by have := hle.2; show (s.hung.length : Int) ≤ (reachStep (B, c) p).2; omega, rfl⟩
end
theorem reach_mono : ∀ (ds : List (Deed Str)) (rh : Int × Int), 0 ≤ rh.2 → rh.1 ≤ (ds.foldl (fun rh x => reachStep rh x.inner) rh).1
  | [], rh, _ => Int.le_refl _
  | x :: ds, rh, h => by
    rw [List.foldl_cons]
    have h1 := reach_le (B := rh.1) x.inner h
    have := reach_mono ds (reachStep rh x.inner) (by have : (reachStep (rh.1, rh.2) x.inner).2 = (reachStep rh x.inner).2 := rfl; omega)
    have e : (reachStep (rh.1, rh.2) x.inner).1 = (reachStep rh x.inner).1 := rfl
    omega
theorem sim_run {d r : Int} : ∀ (ds : List (Deed Str)) {rh : Int × Int} {l : LW Str} {s : SW Str}, Rel d rh.1 l s → 0 ≤ rh.2 → (s.hung.length : Int) ≤ rh.2 → (∀ x ∈ ds, deedOk x) → (∀ x ∈ ds, ∀ f st, x.inner = .walk f st → (st.natAbs : Int) ∣ d - r) →
    4 * (ds.foldl (fun rh x => reachStep rh x.inner) rh).1 + 1 ≤ d →
    Rel d (ds.foldl (fun rh x => reachStep rh x.inner) rh).1 (runL d l ds).1 (runS r s ds).1 ∧ ∀ (i : Nat) a t, (runL d l ds).2[i]? = some a → (runS r s ds).2[i]? = some t → compatV a t
  | [], rh, l, s, R, _, _, _, _, _ => ⟨R, fun i a t h => by simp [runL] at h⟩
  | x :: ds, rh, l, s, R, h0, hc, ho, hdv, hB => by
    rw [List.foldl_cons] at hB ⊢
    have h1 := reach_le (B := rh.1) x.inner h0
    have e1 : (reachStep (rh.1, rh.2) x.inner) = (reachStep rh x.inner) := rfl
    have hm := reach_mono ds (reachStep rh x.inner) (by rw [← e1]; omega)
    obtain ⟨R1, hc1, hcm⟩ := Rel.stepD (c := rh.2) R h0 hc (ho x (List.mem_cons_self ..)) (hdv x (List.mem_cons_self ..)) (by rw [e1]; omega)
    obtain ⟨R2, hall⟩ := sim_run ds (rh := reachStep rh x.inner) R1 (by rw [← e1]; omega) hc1 (fun y hy => ho y (List.mem_cons_of_mem _ hy)) (fun y hy => hdv y (List.mem_cons_of_mem _ hy)) hB
    refine ⟨R2, fun i a t ha ht => ?_⟩
    cases i with
    | zero =>
      cases ha
      cases ht
      exact hcm
    | succ i => exact hall i a t ha ht
theorem Rel.start {d : Int} (hd : 1 ≤ d) : Rel d 0 lw0 sw0 := ⟨by show (0 : Int) = (0 * d + 0) % (2 * d); simp, rfl, SWOk.start⟩
/-- at a great distance the story tells what the line tells -/
theorem sim {ds : List (Deed Str)} (ho : ∀ x ∈ ds, deedOk x) {d : Int} (hd : boundOf ds ≤ d) : rowOk ds d ∧ Rel d (reachOf ds).1 (workL d ds) (workS (d % modOf ds) ds) := by
  have b1 := reach_mono ds (0, 0) (by decide)
  have b1 : 0 ≤ (reachOf ds).1 := b1
  unfold boundOf at hd
  have key := sim_run (d := d) (r := d % modOf ds) ds (rh := (0, 0)) (Rel.start (by omega)) (by decide) (by decide) ho (fun x hx f st e => by
    have h1 := (mod_run ds (m := 1) (by decide) ho).2.2 x hx f st e
    have h2 : modOf ds ∣ d - d % modOf ds := by
      have h := Int.mul_ediv_add_emod d (modOf ds)
      exact ⟨d / modOf ds, by omega⟩
    exact Int.dvd_trans h1 h2) hd
  exact ⟨fun i a t ha ht => key.2 i a t ha ht, key.1⟩
end Rln
end
section
set_option Elab.async false
set_option linter.all false
set_option maxRecDepth 100000
set_option maxHeartbeats 4000000
namespace L2
open PySem PySem.Spec PyProof.Rows
section
variable {X : Cx}
/-- x is False, x is True, any plain x or an object -/
def rIsF : R2 := fun x y H Q => ∃ b, y = .bl b ∧ (match x with | .non => True | .bl _ => True | .int _ => True | .str _ => True | .ref _ => True | _ => False) ∧ Q (.bl (decide (x = .bl b))) H
theorem op_isF : OpR X (compareOp .Is) rIsF := by
  intro pins s σ H x y v u Q I rx ry h
  obtain ⟨b, rfl, hx, q⟩ := h
  cases (show u = Value.bool b from ry)
  cases x with
  | non =>
    cases (show v = Value.none from rx)
    exact wpAny_is_other rfl (fun z => nomatch z) ⟨.bl false, H, I, rfl, by simpa using q⟩
  | bl a =>
    cases (show v = Value.bool a from rx)
    by_cases e : a = b
    · subst e
      exact wpAny_is_self rfl ⟨.bl true, H, I, rfl, by simpa using q⟩
    · exact wpAny_is_other rfl (fun z => e (Value.bool.inj z)) ⟨.bl false, H, I, rfl, by simpa [e] using q⟩
  | int i =>
    obtain ⟨t, e⟩ := (show ∃ t, v = Value.int i t from rx)
    subst e
    exact wpAny_is_other rfl (fun z => nomatch z) ⟨.bl false, H, I, rfl, by simpa using q⟩
  | str i =>
    obtain ⟨t, e⟩ := (show ∃ t, v = Value.str i t from rx)
    subst e
    exact wpAny_is_other rfl (fun z => nomatch z) ⟨.bl false, H, I, rfl, by simpa using q⟩
  | ref a =>
    cases (show v = Value.ref a from rx)
    exact wpAny_is_other rfl (fun z => nomatch z) ⟨.bl false, H, I, rfl, by simpa using q⟩
  | _ => exact False.elim hx
end
end L2
end
section
set_option Elab.async false
set_option linter.all false
set_option maxRecDepth 100000
set_option maxHeartbeats 4000000
/-! enumerate(tuple); zip(tuple, list) -/
namespace PySem
open Sem (wp)
open AutoSeq1 (wpAny_loadPart')
abbrev rlnTi (t : Addr) : Obj := { cls := .type "tuple_iterator", data := .fields #[.ref t, .int 0 0] }
abbrev rlnEn (i : Addr) : Obj := { cls := .type "enumerate", data := .fields #[.none, .bool false, .ref i, rawInt 0, .none, .none] }
theorem rln_enumNewT (t : Addr) (items : Array Value) (n : Nat) (dct : Option Addr) (sl : Array (Option Value)) :
    Meets (Builtin.«enumerate.__new__» ⟨[.type "enumerate", .ref t], []⟩) (fun _ R s => s.heap.get? t = some { cls := .type "tuple", dict := dct, data := .seq items n, slots := sl } ∧
      R (.ok (.ret (.ref (s.heap.push (rlnTi t)).objs.size))) { s with heap := (s.heap.push (rlnTi t)).push (rlnEn s.heap.objs.size) }) :=
  .of_wp fun prog w A R s h => by
    obtain ⟨hp, g, d, tk, os⟩ := s
    obtain ⟨ht, h⟩ := h
    have hsub := sub_enumerate
    have hT : Heap.IsTuple (Shared.heap ⟨hp, g, d, tk, os⟩) t items := ⟨_, ht, rfl, n, rfl⟩
    wp_walk using wpAny_loadPart' ht
    refine wpAny_stack_any fun st => wpAny_pure ?_
    split
    · rename_i c _ _ _ _ _
      cases (c == Value.type "enumerate")
      · wp_walk using wpAny_loadPart' ht, wpAny_pyIter_tuple hT
        exact ⟨_, rfl, h⟩
      · wp_walk using wpAny_loadPart' ht, wpAny_pyIter_tuple hT
        exact ⟨_, rfl, h⟩
    · wp_walk using wpAny_loadPart' ht, wpAny_pyIter_tuple hT
      exact ⟨_, rfl, h⟩
section
variable {prog : Program} {w : World} {A : Around} {E : Value → Shared → Prop} {s : Shared}
theorem rln_enumT {t : Addr} {items : Array Value} {Q : Value → Shared → Prop} (hT : s.heap.IsTuple t items)
    (k : ∀ h', IsEnum h' (s.heap.objs.size + 1) s.heap.objs.size 0 .none → h'.IsTupleIter s.heap.objs.size t 0 → (∀ b o, s.heap.get? b = some o → h'.get? b = some o) → Q (.ref (s.heap.objs.size + 1)) { s with heap := h' }) :
    wpAny (model prog w) A (call (.type "enumerate") [.ref t]) Q E s := by
  obtain ⟨⟨c, dct, dt, sl⟩, ht, hc, n, hd⟩ := hT
  replace hc : c = .type "tuple" := hc
  replace hd : dt = .seq items n := hd
  subst hc hd
  refine callType_new F.called_enumerate (by decide) (F.typeCall_enumerate_1 _) (F.newCall_enumerate_1 _) (fun obj => F.args_object_init_2 obj _) F.entry_enumerate_new (rln_enumNewT t items n dct sl) ⟨ht, ?_⟩
  have hz : (s.heap.push (rlnTi t)).objs.size = s.heap.objs.size + 1 := Heap.size_push ..
  show _ ∧ _
  rw [hz]
  have he : IsEnum ((s.heap.push (rlnTi t)).push (rlnEn s.heap.objs.size)) (s.heap.objs.size + 1) s.heap.objs.size 0 .none := by
    have := Heap.get?_push_size (s.heap.push (rlnTi t)) (o := rlnEn s.heap.objs.size) rfl
    rw [hz] at this
    exact this
  exact ⟨⟨_, he, rfl⟩, k _ he ⟨_, Heap.get?_push_of_some _ (Heap.get?_push_size _ rfl), rfl, rfl⟩ fun b o x => Heap.get?_push_of_some _ (Heap.get?_push_of_some _ x)⟩
end
end PySem
namespace L2
open PySem PySem.Spec PyProof.Rows
/-- the tuple at a, each item in a new pair with its number -/
def IteT (K : PySem.W.Frag) (a : Addr) : It :=
  ⟨fun i H => ∃ (xs : List V) (x : V), SqT K H a xs ∧ xs[i]? = some x, fun i H v H' => ∃ T x, v = .ref T ∧ H T = none ∧ H' = upd H T (.tup [.int (i : Nat), x]) ∧ ∀ xs, SqT K H a xs → xs[i]? = some x,
    fun i H => ∃ xs : List V, SqT K H a xs ∧ xs.length = i⟩
theorem turn_enumT {P : Program} {w : World} {K : PySem.W.Frag} {elts : List Expr} {kk : Nat} {tpos : Pos} (a e it : Addr) (hai : a ≠ it) (hea : e ≠ a) :
    Turn P w K (.Tuple elts kk tpos) (IteT K a) [e, it] e (fun i h => (∃ old, IsEnum h e it ((i : Nat) : Int) old) ∧ h.IsTupleIter it a i ∧ e ≠ it) where
  mem := by simp
  obj := fun i h st b hb => by
    obtain ⟨⟨old, he⟩, ⟨o, ho, hc, hd⟩, _⟩ := st
    have e' : b = e ∨ b = it := by simpa using hb
    rcases e' with z | z
    · rw [z]
      exact ⟨_, he, fun v q => nomatch q⟩
    · rw [z]
      exact ⟨o, ho, fun v q => by rw [hd] at q; cases q⟩
  keep := fun i h h' st k => by
    obtain ⟨⟨old, he⟩, hi, hne⟩ := st
    exact ⟨⟨old, k e (by simp) _ he⟩, hi.at fun o q => k it (by simp) o q, hne⟩
  item := by
    intro X hP hw hK hc i pins s σ H E I hf st hg
    subst hP hw hK
    obtain ⟨⟨old, he⟩, hit, hne⟩ := st
    obtain ⟨xs, x, hq, hx⟩ := hg
    obtain ⟨its, rv, p, hz⟩ := I.tuple hq
    obtain ⟨u, hu, ru⟩ := rv.get hx
    have hel : e < s.heap.objs.size := Heap.lt_size he
    have hil : it < s.heap.objs.size := by
      obtain ⟨_, q, _⟩ := hit
      exact Heap.lt_size q
    have hlt : i < its.toArray.size := by
      have := (List.getElem?_eq_some_iff.mp hu).1
      simpa using this
    refine wpAny_pyNext_enum_itemD (Draws.tuple (A := X.A.in1) (by simp [I.ok.hd hc]) it a hai its.toArray) he ⟨hit, p⟩ hlt hne (by simp [hne, hea]) fun x' h' tk hx' ho hst' hT hsz hk => ?_
    have ex : x' = u := by
      have h1 : its.toArray[i]? = some x' := hx'
      have h2 : its.toArray[i]? = some u := by simpa using hu
      rw [h2] at h1
      exact (Option.some.inj h1).symm
    subst ex
    refine ⟨_, rfl, wpAny_letOwnedTupleGo_enum (s := { s with heap := h', toks := tk + 1 }) ho fun h'' he' sb => ?_⟩
    have hT2 : h''.get? s.heap.objs.size = some { cls := .type "tuple", data := .seq #[.int i tk, x'] } := (sb.2 _ (Nat.ne_of_gt hel)).trans hT
    have new : ObjOk X.prog X.w (upd H s.heap.objs.size (.tup [.int (i : Nat), x])) h'' s.heap.objs.size (.tup [.int (i : Nat), x]) :=
      ⟨by show 2 ≤ sizeLine; decide, [.int i tk, x'], .cons ⟨_, rfl⟩ (.cons ru .nil), ⟨_, hT2, rfl, _, rfl⟩⟩
    have I1 : Inv X pins σ (upd H s.heap.objs.size (.tup [.int (i : Nat), x])) { s with heap := h'', toks := tk + 1 } :=
      I.turnedNew (t' := tk + 1) (ch := [e, it]) (fun b ob hb q => (sb.2 b (fun z => hb (by simp [z]))).trans (hk b ob (fun z => hb (by simp [z])) (fun z => hb (by simp [z])) q)) hf (Nat.le_refl _) new
    refine ⟨.ref s.heap.objs.size, _, I1, rfl, ⟨_, x, rfl, I.hok.fresh (Nat.le_refl _), rfl, fun ys hy => by rw [I.tuple_inj hy hq]; exact hx⟩, ⟨⟨x', ?_⟩, hst'.1.at fun o q => (sb.2 it (Ne.symm hne)).trans q, hne⟩, fun b hb => ?_⟩
    · have e1 : ((i + 1 : Nat) : Int) = (i : Int) + 1 := by omega
      rw [e1]
      exact he'
    · have hb' : b < s.heap.objs.size := by
        have e' : b = e ∨ b = it := by simpa using hb
        rcases e' with z | z
        · rw [z]; exact hel
        · rw [z]; exact hil
      rw [upd_ne (Nat.ne_of_lt hb')]
      exact (hf b hb).1
  done := by
    intro X hP hw hK hc i pins s σ H E I hf st hg
    subst hP hw hK
    obtain ⟨⟨old, he⟩, hit, hne⟩ := st
    obtain ⟨xs, hq, hx⟩ := hg
    obtain ⟨its, rv, p, hz⟩ := I.tuple hq
    obtain ⟨f0, f1, f2, f3, f4, f5⟩ := hf it (by simp)
    have hl := rv.length
    have ei : i = its.toArray.size := by
      rw [List.size_toArray]
      omega
    subst ei
    exact wpAny_pyNext_enum_endD (Draws.tuple (A := X.A.in1) (by simp [I.ok.hd hc]) it a hai its.toArray) he ⟨hit, p⟩ fun h' eb => ⟨rfl, I.turned (t' := s.toks) (fun b o hb q => eb b o hb q) f0 f1 f3 f4 f5⟩
  self := fun A i s Q E st h => by
    obtain ⟨⟨_, he⟩, _⟩ := st
    exact wpAny_pyIter_enum he h
def iEnumT (K : PySem.W.Frag) (ta : TA) : TI := fun σ H R => ta σ H fun vs H1 => ∃ a xs, vs = [.ref a] ∧ SqT K H1 a xs ∧ R (IteT K a) H1
theorem pi_enumT {X : Cx} {e : Expr} {ta : TA} {p pos tpos : Pos} {elts : List Expr} {kk : Nat} (hg : Gl X "enumerate") (hm : X.mg "enumerate" = none) (ha : PA X [e] ta) (hs : starEach [e] X.env = [(false, eval e X.env)] := by rfl) :
    PI X (.Tuple elts kk tpos) (.Call (.Name "enumerate" p) [e] [] pos) (iEnumT X.K ta) := by
  refine ⟨fun pins s σ H R I h => ?_⟩
  refine Call_ (ld_blt I hg hm boot_enumerate (PyProof.Rows.callWith_type1 (thn (ha.run pos pins s σ H _ I h) fun us s1 ⟨vs, H1, I1, r1, q1⟩ => ?_) hs rfl))
  obtain ⟨a, xs, ex, hq, q⟩ := q1
  subst ex
  cases r1 with
  | cons r rr =>
    cases rr
    cases r
    obtain ⟨its, rv, p', hz⟩ := I1.tuple hq
    have hal : a < s1.heap.objs.size := by
      obtain ⟨_, z, _⟩ := p'
      exact Heap.lt_size z
    refine rln_enumT (show s1.heap.IsTuple a its.toArray from p') fun h' he hit hk => wpAny_pyIter_enum he ?_
    have I2 : Inv X pins σ H1 { s1 with heap := h' } := I1.kept (t' := s1.toks) hk
    refine ⟨s1.heap.objs.size + 1, [s1.heap.objs.size + 1, s1.heap.objs.size], _, _, H1, rfl, I2, turn_enumT a (s1.heap.objs.size + 1) s1.heap.objs.size (Nat.ne_of_lt hal) (Nat.ne_of_gt (Nat.lt_succ_of_lt hal)), ⟨⟨.none, he⟩, hit, Nat.succ_ne_self _⟩, fun b hb => ?_, q⟩
    have e' : b = s1.heap.objs.size + 1 ∨ b = s1.heap.objs.size := by simpa using hb
    have hle : s1.heap.objs.size ≤ b := by
      rcases e' with z | z
      · rw [z]; exact Nat.le_add_right _ _
      · rw [z]; exact Nat.le_refl _
    exact I1.fpOk hle (I1.hok.fresh hle)
theorem walk_enumT {K : PySem.W.Frag} {a : Addr} {xs : List V} : Walk (IteT K a) xs.length (fun H => SqT K H a xs) (YPair (fun i => some (.int (i : Nat))) (fun i => xs[i]?)) :=
  ⟨fun i H hi h => ⟨xs, xs[i], h, List.getElem?_eq_getElem hi⟩, fun H h => ⟨xs, h, rfl⟩, fun i H x H' hi h ⟨T, y, e1, e2, e3, e4⟩ => ⟨T, _, y, e1, e2, e3, rfl, e4 xs h⟩⟩
end L2
end
section
set_option Elab.async false
set_option linter.all false
set_option maxRecDepth 100000
set_option maxHeartbeats 4000000
/-! zip(tuple, list) -/
namespace L2
open PySem PySem.Spec PyProof.Rows
def ItzM (K : PySem.W.Frag) (a b : Addr) : It :=
  ⟨fun i H => ∃ (xs ys : List V) (x y : V), SqT K H a xs ∧ SqL K H b ys ∧ xs[i]? = some x ∧ ys[i]? = some y,
    fun i H v H' => ∃ T x y, v = .ref T ∧ H T = none ∧ H' = upd H T (.tup [x, y]) ∧ (∀ xs, SqT K H a xs → xs[i]? = some x) ∧ ∀ ys, SqL K H b ys → ys[i]? = some y,
    fun i H => ∃ xs ys : List V, SqT K H a xs ∧ SqL K H b ys ∧ (xs.length = i ∧ i ≤ ys.length ∨ ys.length = i ∧ i ≤ xs.length)⟩
theorem turn_zipM {P : Program} {w : World} {K : PySem.W.Frag} {elts : List Expr} {kk : Nat} {tpos : Pos} {a b z TI TO i1 i2 : Addr} (S : ZipSep2 z TI TO i1 i2 [i1, a] [i2, b]) (ha1 : a ≠ i1) (hb2 : b ≠ i2) :
    Turn P w K (.Tuple elts kk tpos) (ItzM K a b) [z, TI, TO, i1, i2] z (fun i h => IsZip h z TI TO .none ∧ IsTupOf2 h TI (.ref i1) (.ref i2) ∧ (∃ x y, IsTupOf2 h TO x y) ∧ h.IsTupleIter i1 a i ∧ h.IsListIter i2 b i) where
  mem := by simp
  obj := fun i h st c hc => by
    obtain ⟨hz, hTI, ⟨x, y, hTO⟩, ⟨o1, e1, _, d1⟩, ⟨o2, e2, _, d2⟩⟩ := st
    have e' : c = z ∨ c = TI ∨ c = TO ∨ c = i1 ∨ c = i2 := by simpa using hc
    rcases e' with q | q | q | q | q
    · rw [q]
      exact ⟨_, hz, fun v q => nomatch q⟩
    · rw [q]
      exact ⟨_, hTI, fun v q => nomatch q⟩
    · rw [q]
      exact ⟨_, hTO, fun v q => nomatch q⟩
    · rw [q]
      exact ⟨o1, e1, fun v q => by rw [d1] at q; cases q⟩
    · rw [q]
      exact ⟨o2, e2, fun v q => by rw [d2] at q; cases q⟩
  keep := fun i h h' st k => by
    obtain ⟨hz, hTI, ⟨x, y, hTO⟩, h1, h2⟩ := st
    exact ⟨k z (by simp) _ hz, k TI (by simp) _ hTI, ⟨x, y, k TO (by simp) _ hTO⟩, h1.at fun o q => k i1 (by simp) o q, h2.at fun o q => k i2 (by simp) o q⟩
  item := by
    intro X hP hw hK hc i pins s σ H E I hf st hg
    subst hP hw hK
    obtain ⟨hz, hTI, ⟨x0, y0, hTO⟩, h1, h2⟩ := st
    obtain ⟨xs, ys, x, y, hqx, hqy, hx, hy⟩ := hg
    obtain ⟨its, rv, p, _⟩ := I.tuple hqx
    obtain ⟨its2, rv2, p2, _⟩ := I.list hqy
    obtain ⟨u, hu, ru⟩ := rv.get hx
    obtain ⟨u2, hu2, ru2⟩ := rv2.get hy
    have hzl : z < s.heap.objs.size := Heap.lt_size hz
    have hd1 : X.A.in1.handled = none := by simp [I.ok.hd hc]
    have lt1 : i < its.toArray.size := by
      have := (List.getElem?_eq_some_iff.mp hu).1
      simpa using this
    have lt2 : i < its2.toArray.size := by
      have := (List.getElem?_eq_some_iff.mp hu2).1
      simpa using this
    refine wpAny_pyNext_zipD2_item S (Draws.tuple hd1 i1 a ha1 its.toArray) (Draws.list hd1 i2 b hb2 its2.toArray) hz hTI hTO ⟨h1, p⟩ ⟨h2, p2.isList⟩ lt1 lt2 fun v1 v2 h' tk g1 g2 z' TO' s1' s2' hT hsz hk => ?_
    have e1 : v1 = u := by
      have q1 : its.toArray[i]? = some v1 := g1
      have q2 : its.toArray[i]? = some u := by simpa using hu
      rw [q2] at q1
      exact (Option.some.inj q1).symm
    have e2 : v2 = u2 := by
      have q1 : its2.toArray[i]? = some v2 := g2
      have q2 : its2.toArray[i]? = some u2 := by simpa using hu2
      rw [q2] at q1
      exact (Option.some.inj q1).symm
    subst e1 e2
    refine ⟨_, rfl, wpAny_letOwnedTupleGo_zip (s := { s with heap := h', toks := tk }) z' fun h'' z'' sb => ?_⟩
    have hT2 : h''.get? s.heap.objs.size = some { cls := .type "tuple", data := .seq #[v1, v2] } := (sb.2 _ (Nat.ne_of_gt hzl)).trans hT
    have new : ObjOk X.prog X.w (upd H s.heap.objs.size (.tup [x, y])) h'' s.heap.objs.size (.tup [x, y]) :=
      ⟨by show 2 ≤ sizeLine; decide, [v1, v2], .cons ru (.cons ru2 .nil), ⟨_, hT2, rfl, _, rfl⟩⟩
    have I1 : Inv X pins σ (upd H s.heap.objs.size (.tup [x, y])) { s with heap := h'', toks := tk } :=
      I.turnedNew (t' := tk) (ch := [z, TI, TO, i1, i2]) (fun c o hb q => (sb.2 c (fun q' => hb (by simp [q']))).trans (hk c o (fun q' => hb (by simp [q'])) (fun q' => hb (by simp [q'])) (fun q' => hb (by simp [q'])) (fun q' => hb (by simp [q'])) q)) hf (Nat.le_refl _) new
    refine ⟨.ref s.heap.objs.size, _, I1, rfl, ⟨_, x, y, rfl, I.hok.fresh (Nat.le_refl _), rfl, fun l hl => by rw [I.tuple_inj hl hqx]; exact hx, fun l hl => by rw [I.list_inj hl hqy]; exact hy⟩, ⟨z'', ?_, ⟨v1, v2, ?_⟩, ?_, ?_⟩, fun c hcm => ?_⟩
    · exact (sb.2 _ S.TIz).trans (hk _ _ S.TIz S.TITO S.TIi1 S.TIi2 hTI)
    · exact (sb.2 _ S.TOz).trans TO'
    · exact s1'.1.at fun o q => (sb.2 _ (Ne.symm S.zi1)).trans q
    · exact s2'.1.at fun o q => (sb.2 _ (Ne.symm S.zi2)).trans q
    · have hlt : c < s.heap.objs.size := by
        have e' : c = z ∨ c = TI ∨ c = TO ∨ c = i1 ∨ c = i2 := by simpa using hcm
        rcases e' with q | q | q | q | q
        · rw [q]
          exact hzl
        · rw [q]
          exact Heap.lt_size hTI
        · rw [q]
          exact Heap.lt_size hTO
        · rw [q]
          obtain ⟨_, e1, _⟩ := h1
          exact Heap.lt_size e1
        · rw [q]
          obtain ⟨_, e2, _⟩ := h2
          exact Heap.lt_size e2
      rw [upd_ne (Nat.ne_of_lt hlt)]
      exact (hf c hcm).1
  done := by
    intro X hP hw hK hc i pins s σ H E I hf st hg
    subst hP hw hK
    obtain ⟨hz, hTI, ⟨x0, y0, hTO⟩, h1, h2⟩ := st
    obtain ⟨xs, ys, hqx, hqy, hend⟩ := hg
    obtain ⟨its, rv, p, _⟩ := I.tuple hqx
    obtain ⟨its2, rv2, p2, _⟩ := I.list hqy
    have l1 := rv.length
    have l2 := rv2.length
    have hd1 : X.A.in1.handled = none := by simp [I.ok.hd hc]
    have s1 : its.toArray.size = its.length := List.size_toArray ..
    have s2 : its2.toArray.size = its2.length := List.size_toArray ..
    refine wpAny_pyNext_zipD2_end S (Draws.tuple hd1 i1 a ha1 its.toArray) (Draws.list hd1 i2 b hb2 its2.toArray) hz hTI hTO ⟨h1, p⟩ ⟨h2, p2.isList⟩ (by omega) (by omega) (by omega) fun h' tk hk => ⟨rfl, I.turnedL (t' := tk) (ch := [z, TI, TO, i1, i2]) (fun c o hb q =>
      hk c o (fun q' => hb (by simp [q'])) (fun q' => hb (by simp [q'])) (fun q' => hb (by simp [q'])) (fun q' => hb (by simp [q'])) q) hf⟩
  self := fun A i s Q E st h => wpAny_pyIter_zip st.1 h
theorem sepN (n a b : Nat) (ha : a < n) (hb : b < n) : ZipSep2 (n + 4) (n + 2) (n + 3) n (n + 1) [n, a] [n + 1, b] :=
  ⟨(fun h => by have h : (n + 2 : Nat) = n + 4 := h; omega), (fun h => by have h : (n + 3 : Nat) = n + 4 := h; omega), (fun h => by have h : (n + 2 : Nat) = n + 3 := h; omega), (fun h => by have h : (n + 2 : Nat) = n := h; omega), List.mem_cons_self .., (fun h => by
    rcases List.mem_cons.mp h with h | h
    · have h : (n + 4 : Nat) = n := h
      omega
    · have h : (n + 4 : Nat) = a := List.mem_singleton.mp h
      omega), (fun h => by
    rcases List.mem_cons.mp h with h | h
    · have h : (n + 3 : Nat) = n := h
      omega
    · have h : (n + 3 : Nat) = a := List.mem_singleton.mp h
      omega), (fun h => by have h : (n + 2 : Nat) = n + 1 := h; omega), List.mem_cons_self .., (fun h => by
    rcases List.mem_cons.mp h with h | h
    · have h : (n + 4 : Nat) = n + 1 := h
      omega
    · have h : (n + 4 : Nat) = b := List.mem_singleton.mp h
      omega), (fun h => by
    rcases List.mem_cons.mp h with h | h
    · have h : (n + 3 : Nat) = n + 1 := h
      omega
    · have h : (n + 3 : Nat) = b := List.mem_singleton.mp h
      omega), (fun h => by
    rcases List.mem_cons.mp h with h | h
    · have h : (n : Nat) = n + 1 := h
      omega
    · have h : (n : Nat) = b := List.mem_singleton.mp h
      omega), (fun h => by
    rcases List.mem_cons.mp h with h | h
    · have h : (n + 1 : Nat) = n := h
      omega
    · have h : (n + 1 : Nat) = a := List.mem_singleton.mp h
      omega)⟩
def iZipM (K : PySem.W.Frag) (ta : TA) : TI := fun σ H R => ta σ H fun vs H1 => ∃ a b xs ys, vs = [.ref a, .ref b] ∧ SqT K H1 a xs ∧ SqL K H1 b ys ∧ R (ItzM K a b) H1
theorem pi_zipM {X : Cx} {e e2 : Expr} {ta : TA} {p pos tpos : Pos} {elts : List Expr} {kk : Nat} (hg : Gl X "zip") (hm : X.mg "zip" = none) (ha : PA X [e, e2] ta)
    (hs : starEach [e, e2] X.env = (false, eval e X.env) :: starEach [e2] X.env := by rfl) (hpl : (backTo pos (starEach [e2] X.env)).any (·.1) = false := by rfl) :
    PI X (.Tuple elts kk tpos) (.Call (.Name "zip" p) [e, e2] [] pos) (iZipM X.K ta) := by
  refine ⟨fun pins s σ H R I h => ?_⟩
  refine Call_ (ld_blt I hg hm PyProof.Rows.boot_zip (PyProof.Rows.callWith_type1 (thn (ha.run pos pins s σ H _ I h) fun us s1 ⟨vs, H1, I1, r1, q1⟩ => ?_) hs hpl))
  obtain ⟨a, b, xs, ys, ex, hqx, hqy, q⟩ := q1
  subst ex
  cases r1 with
  | cons r rr =>
    cases rr with
    | cons r' rr =>
      cases rr
      cases r
      cases r'
      obtain ⟨its, rv, p1, _⟩ := I1.tuple hqx
      obtain ⟨its2, rv2, p2, _⟩ := I1.list hqy
      have hal : a < s1.heap.objs.size := by
        obtain ⟨_, z, _⟩ := id p1
        exact Heap.lt_size z
      have hbl : b < s1.heap.objs.size := p2.lt
      refine zip_begins2 (begins_tuple a its.toArray) (begins_list b its2.toArray) (show s1.heap.IsTuple a its.toArray from p1) p2.isList fun h' hz hTI hTO h1 h2 hsz hk => wpAny_pyIter_zip hz ?_
      have I2 : Inv X pins σ H1 { s1 with heap := h' } := I1.kept (t' := s1.toks) hk
      have sep : ZipSep2 (s1.heap.objs.size + 4) (s1.heap.objs.size + 2) (s1.heap.objs.size + 3) s1.heap.objs.size (s1.heap.objs.size + 1) [s1.heap.objs.size, a] [s1.heap.objs.size + 1, b] := sepN _ _ _ hal hbl
      refine ⟨s1.heap.objs.size + 4, [s1.heap.objs.size + 4, s1.heap.objs.size + 2, s1.heap.objs.size + 3, s1.heap.objs.size, s1.heap.objs.size + 1], _, _, H1, rfl, I2, turn_zipM sep (Nat.ne_of_lt hal) (Nat.ne_of_lt (Nat.lt_succ_of_lt hbl)), ⟨hz, hTI, ⟨_, _, hTO⟩, ⟨_, h1, rfl, rfl⟩, ⟨_, h2, rfl, rfl⟩⟩, fun c hcm => ?_, q⟩
      have hle : s1.heap.objs.size ≤ c := by
        have e' : c = s1.heap.objs.size + 4 ∨ c = s1.heap.objs.size + 2 ∨ c = s1.heap.objs.size + 3 ∨ c = s1.heap.objs.size ∨ c = s1.heap.objs.size + 1 := by simpa using hcm
        rcases e' with z | z | z | z | z <;> rw [z] <;> first | exact Nat.le_refl _ | exact Nat.le_add_right _ _
      exact I1.fpOk hle (I1.hok.fresh hle)
theorem walk_zipM {K : PySem.W.Frag} {a b : Addr} {xs ys : List V} (hl : xs.length = ys.length) : Walk (ItzM K a b) xs.length (fun H => SqT K H a xs ∧ SqL K H b ys) (YPair (fun i => xs[i]?) (fun i => ys[i]?)) :=
  ⟨fun i H hi h => ⟨xs, ys, xs[i], ys[i], h.1, h.2, List.getElem?_eq_getElem hi, List.getElem?_eq_getElem (by omega)⟩, fun H h => ⟨xs, ys, h.1, h.2, .inl ⟨rfl, by omega⟩⟩, fun i H x H' hi h ⟨T, y, z, e1, e2, e3, e4, e5⟩ => ⟨T, y, z, e1, e2, e3, e4 xs h.1, e5 ys h.2⟩⟩
end L2
end
section
set_option Elab.async false
set_option linter.all false
set_option maxRecDepth 100000
set_option maxHeartbeats 4000000
namespace Rln
open PySem PySem.Spec PyProof.Rows L2
def failK (x : Deed Str) : Bool := match x.inner with
  | .look _ => false
  | _ => true
def failB (x : Deed Str) (u : V) : Bool := failK x && (decide (u = .non) || decide (u = .bl false))
def plainV : V → Prop
  | .non => True
  | .bl _ => True
  | .int _ => True
  | .str _ => True
  | .ref _ => True
  | _ => False
theorem plain_told {a : TV Str} : plainV (valT a) := by cases a <;> trivial
theorem plain_T {K : PySem.W.Frag} {H : Hp} {v : V} {t : TV Str} (h : TAt K H v t) : plainV v := by
  cases t with
  | form =>
    obtain ⟨f, _, _, _, _, _, rfl, _⟩ := h
    trivial
  | int i => exact False.elim h
  | _ =>
    have e := h
    unfold TAt at e
    subst e
    exact plain_told
theorem w_look : ∀ q : PD Str, decide (V.str (pdW q) = V.str "look") = !(match q with | .look _ => false | _ => true)
  | .peg .. => dec_str (a := "peg") (by decide +kernel)
  | .hang .. => dec_str (a := "hang") (by decide +kernel)
  | .take .. => dec_str (a := "take") (by decide +kernel)
  | .look .. => decide_eq_true rfl
  | .fetch .. => dec_str (a := "fetch") (by decide +kernel)
  | .pull .. => dec_str (a := "pull") (by decide +kernel)
  | .walk .. => dec_str (a := "walk") (by decide +kernel)
section
variable {P : Program} {w : World} {K : PySem.W.Frag} {mg : Str → Option Value} {base : Heap}
abbrev N_set_of : List Str := ["modulus", "classes", "start", "early", "changed", "distance"]
theorem sc_set_of : FnScope N_set_of ["modulus", "classes", "start", "early"] (defScope s_set_of) := ⟨rfl, rfl, rfl, by decide +kernel, rfl, by decide +kernel, by decide +kernel⟩
def spSetOf (K : PySem.W.Frag) : Sp := fun vs H Q _ => ∃ (m st : Int) (C E : Addr) (cs es : List Int), vs = [.int m, .ref C, .int st, .ref E] ∧ H C = some (.lst (cs.map V.int)) ∧ H E = some (.lst (es.map V.int)) ∧ m ∈ D60 ∧ cs.Nodup ∧ (∀ c ∈ cs, 0 ≤ c ∧ c < m) ∧ 1 ≤ st ∧ st ≤ 61 ∧
  ∀ H' r, Same H H' → SetAt K H' r (fun d => if d < st then decide (d ∈ es) else decide (d % m ∈ cs)) → Q r H'
theorem cal_set_of (T : Tx K mg) : Cal P w K mg base 8 "set_of" (spSetOf K) [] := by
  refine calD T.f_set_of T.g_set_of sc_set_of (fun vs H Q E h => ?_) (fun _ _ _ _ _ _ us hl => match us, hl with | [_, _, _, _], _ => rfl) (fun cdv A outer s H vs Q E hr h => ?_)
  · obtain ⟨m, st, C, F, _, _, rfl, _⟩ := h
    rfl
  · obtain ⟨m, st, C, F, cs, es, rfl, hC, hF, hm, hcn, hcb, s1, s2, k⟩ := h
    refine ⟨_, (pss_cons (ps_setLc (i := 4) (own := [("distance", 5)]) rfl sc_set_of.nd rfl rfl (sw_true rfl rfl rfl (by decide +kernel)) (pi_range2 (by rfl) T.n_range (pa_cons pe_int (pa_cons (pv 2) pa_nil))) (blkOk_by (N := N_set_of) (sc := defScope s_set_of) (own := [("distance", 5)]) (by decide +kernel)) (fun _ _ _ _ _ => (pg_name (i := 5) sc_set_of.nd rfl (Or.inl rfl))) (fun _ _ _ _ _ => pts_one (pt_cmpR op_ne (pe_cmpR (op_in_seqB (K := K) rfl) (pv 5) (pv 3) (by rfl)) (pe_cmpR (op_in_seqB (K := K) rfl) (pe_op op_mod (pv 5) (pv 0)) (pv 1) (by rfl)) (nomark _))) (fun _ _ _ _ _ => (pv 5)))
      (pss_one (ps_ret (C8.pe_mk (mak_Dist3 T) hr (by decide) (by rfl) (pa_cons (pv 0) (pa_cons (pe_callTy call_tuple_of (by rfl) T.n_tuple boot_tuple (pa_cons (pv 1) pa_nil)) (pa_cons (pe_callTy call_tuple_of (by rfl) T.n_tuple boot_tuple (pa_cons (pv 4) pa_nil)) pa_nil))))))), ?_⟩
    have mb := D60_ne hm
    have allint : ∀ ns : List Int, (ns.map V.int).all flatV = true := fun ns => by
      rw [List.all_eq_true]
      intro y hy
      obtain ⟨z, _, rfl⟩ := List.mem_map.mp hy
      rfl
    refine ⟨_, rfl, _, _, rfl, ⟨by decide, by decide, by omega, by omega⟩, fun D hD => lc_it (walk_range (lo := 1) (n := (st - 1).toNat)) (fun i H' => Same H H' ∧ H' D = some (.lst ((((List.range i).map fun (j : Nat) => 1 + (j : Int)).filter fun d => decide (d ∈ es) != decide (d % m ∈ cs)).map V.int))) ⟨Same.new hD, upd_same⟩ (fun _ _ _ _ => trivial) ?_ ?_⟩
    · rintro i x H5 H6 hi ⟨e5, hl5⟩ ⟨eH, rfl⟩
      have eH2 : H5 = H6 := eH.symm
      subst eH2
      have hC5 := e5 _ _ hC
      have hF5 := e5 _ _ hF
      refine ⟨rfl, _, rfl, _, rfl, F, _, rfl, .inl (SqL.of hF5), rfl, allint es, _, rfl, _, rfl, _, _, rfl, rfl, by show (0 : Int) < m; omega, _, rfl, C, _, rfl, .inl (SqL.of hC5), rfl, allint cs, rfl, _, rfl, ?_⟩
      have e : (!decide (V.bl (inV (V.int (1 + (i : Int))) (es.map V.int)) = V.bl (inV (V.int ((1 + (i : Int)) % m)) (cs.map V.int)))) = (decide (1 + (i : Int) ∈ es) != decide ((1 + (i : Int)) % m ∈ cs)) := by
        rw [inV_ints, inV_ints]
        cases decide (1 + (i : Int) ∈ es) <;> cases decide ((1 + (i : Int)) % m ∈ cs) <;> rfl
      rw [List.range_succ, List.map_append, List.filter_append]
      show (if (!decide (V.bl (inV (V.int (1 + (i : Int))) (es.map V.int)) = V.bl (inV (V.int ((1 + (i : Int)) % m)) (cs.map V.int)))) = true then _ else _)
      rw [e]
      cases c : (decide (1 + (i : Int) ∈ es) != decide ((1 + (i : Int)) % m ∈ cs)) with
      | true =>
        refine iteT ⟨_, rfl, _, hl5, ?_, e5.put hD, ?_⟩
        · rw [List.length_map, sizeLine_eq]
          have := List.length_filter_le (fun d => decide (d ∈ es) != decide (d % m ∈ cs)) ((List.range i).map fun (j : Nat) => 1 + (j : Int))
          rw [List.length_map, List.length_range] at this
          omega
        · rw [upd_same, List.map_append, List.map_singleton, List.filter_cons, c, if_pos rfl]
          rfl
      | false =>
        refine iteF ⟨e5, ?_⟩
        rw [List.map_singleton, List.filter_cons, c, if_neg Bool.false_ne_true, List.filter_nil, List.append_nil]
        exact hl5
    · rintro H1 ⟨e1, hl1⟩
      generalize hg : ((List.range (st - 1).toNat).map fun (j : Nat) => 1 + (j : Int)).filter (fun d => decide (d ∈ es) != decide (d % m ∈ cs)) = gs at hl1
      have gmem : ∀ d, d ∈ gs ↔ (1 ≤ d ∧ d < st) ∧ (decide (d ∈ es) != decide (d % m ∈ cs)) = true := fun d => by
        rw [← hg, List.mem_filter]
        refine and_congr_left fun _ => ?_
        rw [List.mem_map]
        constructor
        · rintro ⟨j, hj, rfl⟩
          have := List.mem_range.mp hj
          omega
        · intro h
          exact ⟨(d - 1).toNat, List.mem_range.mpr (by omega), by omega⟩
      have gnd : gs.Nodup := by
        rw [← hg]
        exact (List.filter_sublist).nodup (nodup_map_inj List.nodup_range fun x _ y _ e => by omega)
      have hC1 := e1 _ _ hC
      refine ⟨_, rfl, _, rfl, C, _, rfl, .inl ⟨SqL.of hC1, fun p hp => ?_⟩⟩
      have e2 : Same H1 (upd H1 p (.tup (cs.map V.int))) := Same.new hp
      have hp2 : upd H1 p (.tup (cs.map V.int)) p = some (.tup (cs.map V.int)) := upd_same
      generalize upd H1 p (.tup (cs.map V.int)) = H2 at e2 hp2
      refine ⟨_, rfl, D, _, rfl, .inl ⟨SqL.of (e2 _ _ hl1), fun q hq => ?_⟩⟩
      have e3 : Same H2 (upd H2 q (.tup (gs.map V.int))) := Same.new hq
      have hq3 : upd H2 q (.tup (gs.map V.int)) q = some (.tup (gs.map V.int)) := upd_same
      generalize upd H2 q (.tup (gs.map V.int)) = H3 at e3 hq3
      have hp3 := e3 _ _ hp2
      intro x dx hx hdx ne
      have up : Same H3 (upd (upd H3 dx (.own x)) x (.ins (cDist K) dx [])) := fun b u z => by
        rw [upd_ne (ne_of_none z hx), upd_ne (ne_of_none z hdx)]
        exact z
      refine ⟨x, dx, _, p, q, rfl, upd_same, .inr ⟨m, cs, gs, rfl, hm, SqT.of (up _ _ hp3), SqT.of (up _ _ hq3), hcn, hcb, gnd, fun g hg' => ?_, fun H4 s4 hs => ⟨rfl, ?_⟩⟩⟩
      · have := ((gmem g).mp hg').1
        omega
      · refine k H4 _ (((e1.trans e2).trans e3).trans (Sx.made s4 hx hdx)) (hs.congr fun d hd => ?_)
        have : decide (d ∈ gs) = (decide (d < st) && (decide (d ∈ es) != decide (d % m ∈ cs))) := by
          rw [Bool.eq_iff_iff, decide_eq_true_eq, Bool.and_eq_true, decide_eq_true_eq, gmem]
          exact ⟨fun z => ⟨z.1.2, z.2⟩, fun z => ⟨⟨hd, z.1⟩, z.2⟩⟩
        rw [this]
        by_cases c : d < st
        · rw [if_pos c, decide_eq_true c]
          cases decide (d ∈ es) <;> cases decide (d % m ∈ cs) <;> rfl
        · rw [if_neg c, decide_eq_false c]
          cases decide (d % m ∈ cs) <;> rfl
abbrev N_fails : List Str := ["deed", "told"]
theorem sc_fails : FnScope N_fails ["deed", "told"] (defScope s_fails) := ⟨rfl, rfl, rfl, by decide +kernel, rfl, by decide +kernel, by decide +kernel⟩
def spFails : Sp := fun vs H Q _ => ∃ v x u, vs = [v, u] ∧ DAt H v x ∧ plainV u ∧ Q (.bl (failB x u)) H
theorem cal_fails (T : Tx K mg) : Cal P w K mg base 2 "fails" spFails [] := by
  refine calD T.f_fails T.g_fails sc_fails (fun vs H Q E h => ?_) (fun _ _ _ _ _ _ us hl => match us, hl with | [_, _], _ => rfl) (fun cdv A outer s H vs Q E hr h => ?_)
  · obtain ⟨v, x, u, rfl, _⟩ := h
    rfl
  · obtain ⟨v, x, u, rfl, hx, hu, k⟩ := h
    refine ⟨_, (pss_one (ps_ret (pe_and (pe_cmpR op_ne (pe_ix ix_tup (C8.pe_c (cal_inner T) hr (by decide) (by rfl) (pa_cons (pv 0) pa_nil)) pe_int (fun _ _ => rfl)) pe_str (nomark _)) (pe_one (pe_or (pe_cmpR op_isN (pv 1) pe_non (nomark _)) (pe_one (pe_cmpR op_isF (pv 1) pe_bl (nomark _)))))))), ?_⟩
    refine ⟨_, rfl, v, x, rfl, hx, fun a ha => ?_⟩
    have w0 : atI (pdV x.inner) 0 = some (.str (pdW x.inner)) := by cases x.inner <;> rfl
    refine ⟨a, _, _, _, rfl, rfl, SqT.of ha, w0, rfl, _, rfl, ?_⟩
    have ek : (!decide (V.str (pdW x.inner) = V.str "look")) = failK x := by
      rw [w_look]
      unfold failK
      rw [Bool.not_not]
    unfold failB at k
    rw [ek]
    cases c : failK x with
    | false =>
      rw [c] at k
      exact iteF k
    | true =>
      rw [c] at k
      refine iteT ⟨_, rfl, rfl, _, rfl, ?_⟩
      cases c2 : decide (u = V.non) with
      | true =>
        rw [c2] at k
        exact iteT k
      | false =>
        rw [c2] at k
        refine iteF ⟨_, rfl, false, rfl, ?_, k⟩
        cases u <;> first | trivial | exact hu
end
end Rln
end
section
set_option Elab.async false
set_option linter.all false
set_option maxRecDepth 100000
set_option maxHeartbeats 4000000
namespace Rln
open PySem PySem.Spec PyProof.Rows L2
theorem bound_take (ds : List (Deed Str)) (k : Nat) : boundOf (ds.take k) ≤ boundOf ds := by
  unfold boundOf reachOf
  have h : ds.foldl (fun rh x => reachStep rh x.inner) ((0 : Int), (0 : Int)) = (ds.drop k).foldl (fun rh x => reachStep rh x.inner) ((ds.take k).foldl (fun rh x => reachStep rh x.inner) ((0 : Int), (0 : Int))) := by
    rw [← List.foldl_append, List.take_append_drop]
  rw [h]
  have h1 := reach_bd (ds.take k) (0, 0) (by decide)
  have := reach_mono (ds.drop k) ((ds.take k).foldl (fun rh x => reachStep rh x.inner) ((0 : Int), (0 : Int))) h1.1
  omega
theorem bound_pos (ds : List (Deed Str)) : 1 ≤ boundOf ds := by
  have : 0 ≤ (reachOf ds).1 := reach_mono ds (0, 0) (by decide)
  unfold boundOf
  omega
theorem ds_slice {K : PySem.W.Frag} {H : Hp} {v : V} {ds : List (Deed Str)} {Q : VK} (hD : DsAt K H v ds) (k : Nat) (hk : k ≤ ds.length) (q : ∀ H' u, Same H H' → DsAt K H' u (ds.take k) → Q u H') : rSlA K v none (some (k : Int)) H Q := by
  obtain ⟨a, us, rfl, h1, h2, h3⟩ := hD
  refine ⟨a, us, rfl, h1, fun hw => ?_, fun _ p hp => ?_⟩
  · have : k = us.length := by
      have := hw.2
      rw [sIx_nat _ _ _ (by omega)] at this
      exact this
    refine q H _ (fun _ _ e => e) ⟨a, us, rfl, h1, ?_, fun i x hx => ?_⟩
    · rw [List.length_take]
      omega
    · rw [List.take_of_length_le (by omega)] at hx
      exact h3 i x hx
  · rw [cut_take _ _ (by omega)]
    have e : Same H (upd H p (.tup (us.take k))) := Same.new hp
    refine q _ _ e ⟨p, us.take k, rfl, SqT.of upd_same, ?_, fun i x hx => ?_⟩
    · rw [List.length_take, List.length_take]
      omega
    · rw [List.getElem?_take] at hx
      by_cases c : i < k
      · rw [if_pos c] at hx
        obtain ⟨u, hu, hd⟩ := h3 i x hx
        exact ⟨u, by rw [List.getElem?_take, if_pos c]; exact hu, hd.mono e⟩
      · rw [if_neg c] at hx
        cases hx
def vT : TV Str → V
  | .form => .int 0
  | t => valT t
theorem fail_T {K : PySem.W.Frag} {H : Hp} {v : V} {t : TV Str} (x : Deed Str) (h : TAt K H v t) : failB x v = failB x (vT t) := by
  cases t with
  | form =>
    obtain ⟨f, _, _, _, _, _, rfl, _⟩ := h
    rfl
  | int i => exact False.elim h
  | _ =>
    have e := h
    unfold TAt at e
    subst e
    rfl
theorem fail_compat {x : Deed Str} {a t : TV Str} (h : compatV a t) : failB x (valT a) = failB x (vT t) := by
  cases t with
  | form =>
    obtain ⟨i, rfl⟩ := h
    rfl
  | _ =>
    have e := h
    unfold compatV at e
    rw [e]
    rfl
def tL (d : Int) (ds : List (Deed Str)) (k : Nat) : TV Str := ((toldL d ds)[k]?).getD .non
def tS (r : Int) (ds : List (Deed Str)) (k : Nat) : TV Str := ((toldS r ds)[k]?).getD .non
theorem tL_get {d : Int} {ds : List (Deed Str)} {k : Nat} (h : k < ds.length) : (toldL d ds)[k]? = some (tL d ds k) := by
  unfold tL
  have hl : (toldL d ds).length = ds.length := runL_len d ds lw0
  rw [List.getElem?_eq_getElem (by omega)]
  rfl
theorem tS_get {r : Int} {ds : List (Deed Str)} {k : Nat} (h : k < ds.length) : (toldS r ds)[k]? = some (tS r ds k) := by
  unfold tS
  have hl : (toldS r ds).length = ds.length := runS_len r ds sw0
  rw [List.getElem?_eq_getElem (by omega)]
  rfl
/-- from the start on the rows tell it -/
theorem rows_tell {ds : List (Deed Str)} (ho : ∀ x ∈ ds, deedOk x) {st : Int} (h : ∀ e, st ≤ e → e < boundOf ds → rowOk ds e) {d : Int} (hd : st ≤ d) {k : Nat} (hk : k < ds.length) : compatV (tL d ds k) (tS (d % modOf ds) ds k) := by
  have : rowOk ds d := by
    by_cases c : d < boundOf ds
    · exact h d hd c
    · exact (sim ho (by omega)).1
  exact this k _ _ (tL_get hk) (tS_get hk)
def failAt (ds : List (Deed Str)) (k : Nat) (d : Int) : Bool := match ds[k]? with
  | some x => failB x (valT (tL d (ds.take (k + 1)) k))
  | none => false
section
variable {P : Program} {w : World} {K : PySem.W.Frag} {mg : Str → Option Value} {base : Heap}
abbrev N_failing_of : List Str := ["deeds", "index", "rows", "start", "classes", "early", "remainder", "row", "distance"]
theorem sc_failing_of : FnScope N_failing_of ["deeds", "index"] (defScope s_failing_of) := ⟨rfl, rfl, rfl, by decide +kernel, rfl, by decide +kernel, by decide +kernel⟩
def spFailOf (K : PySem.W.Frag) : Sp := fun vs H Q _ => ∃ (v : V) (ds : List (Deed Str)) (k : Nat), vs = [v, .int k] ∧ DsAt K H v ds ∧ (∀ x ∈ ds, deedOk x) ∧ ds.length ≤ 19 ∧ boundOf ds ≤ 61 ∧ k < ds.length ∧ ∀ H' r, Same H H' → SetAt K H' r (failAt ds k) → Q r H'
theorem cal_failing_of (T : Tx K mg) : Cal P w K mg base 10 "failing_of" (spFailOf K) [] := by
  refine calD T.f_failing_of T.g_failing_of sc_failing_of (fun vs H Q E h => ?_) (fun _ _ _ _ _ _ us hl => match us, hl with | [_, _], _ => rfl) (fun cdv A outer s H vs Q E hr h => ?_)
  · obtain ⟨v, _, _, rfl, _⟩ := h
    rfl
  · obtain ⟨v, ds, k, rfl, hD, ho, hl, hb, hk, kk⟩ := h
    refine ⟨_, (pss_cons (ps_set (i := 0) sc_failing_of.nd rfl (Or.inr rfl) (pe_slice sl_tupA (pv 0) po_none (po_some (pe_op op_add (pv 1) pe_int))))
      (pss_cons (ps_set (i := 2) sc_failing_of.nd rfl (Or.inl rfl) (C8.pe_c (cal_rows_of T) hr (by decide) (by rfl) (pa_cons (pv 0) pa_nil)))
      (pss_cons (ps_set (i := 3) sc_failing_of.nd rfl (Or.inl rfl) (C8.pe_c (cal_start_of T) hr (by decide) (by rfl) (pa_cons (pv 0) (pa_cons (pv 2) pa_nil))))
      (pss_cons (ps_setLc (i := 4) (own := [("remainder", 6), ("row", 7)]) rfl sc_failing_of.nd rfl rfl (sw_true rfl rfl rfl (by decide +kernel)) (pi_enum (by rfl) T.n_enumerate (pa_cons (pv 2) pa_nil)) (blkOk_by (N := N_failing_of) (sc := defScope s_failing_of) (own := [("remainder", 6), ("row", 7)]) (by decide +kernel)) (fun _ _ _ _ _ => (pg_tupB (K := K) (n := 2) rfl rfl (pgs_cons (pg_name (i := 6) sc_failing_of.nd rfl (Or.inl rfl)) (pgs_cons (pg_name (i := 7) sc_failing_of.nd rfl (Or.inl rfl)) pgs_nil)))) (fun _ _ _ _ _ => pts_one (pt_val (C8.pe_c (cal_fails T) hr (by decide) (by rfl) (pa_cons (pe_ix (ix_tupB (K := K) rfl) (pv 0) (pv 1) (fun _ _ => rfl)) (pa_cons (pe_ix (ix_listB (K := K) rfl) (pv 7) (pv 1) (fun _ _ => rfl)) pa_nil))))) (fun _ _ _ _ _ => (pv 6)))
      (pss_cons (ps_setLc (i := 5) (own := [("distance", 8)]) rfl sc_failing_of.nd rfl rfl (sw_true rfl rfl rfl (by decide +kernel)) (pi_range2 (by rfl) T.n_range (pa_cons pe_int (pa_cons (pv 3) pa_nil))) (blkOk_by (N := N_failing_of) (sc := defScope s_failing_of) (own := [("distance", 8)]) (by decide +kernel)) (fun _ _ _ _ _ => (pg_name (i := 8) sc_failing_of.nd rfl (Or.inl rfl))) (fun _ _ _ _ _ => pts_one (pt_val (C8.pe_c (cal_fails T) hr (by decide) (by rfl) (pa_cons (pe_ix (ix_tupB (K := K) rfl) (pv 0) (pv 1) (fun _ _ => rfl)) (pa_cons (pe_ix (ix_listB (K := K) rfl) (C8.pe_c (cal_told_of T) hr (by decide) (by rfl) (pa_cons (pv 0) (pa_cons (pv 8) pa_nil))) (pv 1) (fun _ _ => rfl)) pa_nil))))) (fun _ _ _ _ _ => (pv 8)))
      (pss_one (ps_ret (C8.pe_c (cal_set_of T) hr (by decide) (by rfl) (pa_cons (pe_callB call_len_seq (by rfl) T.n_len (by decide +kernel) (pa_cons (pv 2) pa_nil)) (pa_cons (pv 4) (pa_cons (pv 3) (pa_cons (pv 5) pa_nil)))))))))))), ?_⟩
    refine ⟨_, rfl, _, rfl, _, _, rfl, rfl, _, rfl, ?_⟩
    refine ds_slice hD (k + 1) (by omega) fun H1 u e1 hD1 => ?_
    have ho1 : ∀ x ∈ ds.take (k + 1), deedOk x := fun x hx => ho x (List.mem_of_mem_take hx)
    have hl1 : (ds.take (k + 1)).length = k + 1 := by rw [List.length_take]; omega
    have hb1 := bound_take ds (k + 1)
    have hx0 : (ds.take (k + 1))[k]? = some ds[k] := by
      rw [List.getElem?_take, if_pos (by omega), List.getElem?_eq_getElem hk]
    have efa : ∀ d, failAt ds k d = failB ds[k] (valT (tL d (ds.take (k + 1)) k)) := fun d => by
      unfold failAt
      rw [List.getElem?_eq_getElem hk]
    replace efa : failAt ds k = fun d => failB ds[k] (valT (tL d (ds.take (k + 1)) k)) := funext efa
    rw [efa] at kk
    generalize ds[k] = x at hx0 kk
    generalize ds.take (k + 1) = es at hD1 ho1 hl1 hb1 hx0 kk
    have hke : k < es.length := by omega
    have hm := modOf_D60 ho1
    have mb := D60_ne hm
    refine ⟨_, rfl, u, es, rfl, hD1, ho1, by omega, fun H2 D e2 hDn hR => ?_⟩
    have e2 : Same H1 H2 := e2
    refine ⟨_, rfl, _, rfl, u, .ref D, es, rfl, hD1.mono e2, hR, ho1, by omega, by omega, fun H3 st e3 s1 s2 hrow => ?_⟩
    have e3 : Same H2 H3 := e3
    have hD3 := (hD1.mono e2).mono e3
    obtain ⟨_, rs, eD, hrs, lrs, hrows⟩ := hR.mono e3
    cases eD
    refine ⟨_, rfl, D, rs, rfl, SqL.of hrs, fun C hC => lc_it (walk_enum (xs := rs)) (fun i H' => Same H3 H' ∧ H' C = some (.lst ((((List.range i).filter fun (j : Nat) => (failB x (vT (tS (j : Int) es k)))).map fun (j : Nat) => (j : Int)).map V.int))) ⟨Same.new hC, upd_same⟩ (fun i H' _ h => SqL.of (h.1 _ _ hrs)) ?_ ?_⟩
    · rintro i x1 H4 H5 hi ⟨e4, hl4⟩ ⟨t, x2, y2, rfl, ht, rfl, hx2, hy2⟩
      cases hx2
      obtain ⟨E', us', g1, g2, g3⟩ := hrows i (by omega)
      have ey : .ref E' = y2 := Option.some.inj (g1.symm.trans hy2)
      subst ey
      have e45 : Same H4 (upd H4 t (.tup [.int (i : Nat), .ref E'])) := Same.new ht
      have e35 := e4.trans e45
      have hE5 := e35 _ _ g2
      have hl5 := e45 _ _ hl4
      have hD5 := hD3.mono e35
      refine ⟨t, _, rfl, SqT.of upd_same, rfl, _, _, rfl, _, _, rfl, rfl, rfl, ?_⟩
      generalize upd H4 t (.tup [.int (i : Nat), .ref E']) = H5 at e45 e35 hE5 hl5 hD5
      obtain ⟨a0, vs0, rfl, d1, d2, d3⟩ := hD5
      obtain ⟨du, hdu, hdx⟩ := d3 k x hx0
      obtain ⟨ru, hru, hrt⟩ := g3.get (tS_get (r := i) hke)
      refine ⟨_, rfl, _, rfl, a0, _, _, _, rfl, rfl, d1, atI_nat hdu, _, rfl, _, rfl, E', _, _, _, rfl, rfl, SqL.of hE5, atI_nat hru, du, x, ru, rfl, hdx, plain_T hrt, _, rfl, ?_⟩
      have e56 : Same H5 H5 := fun _ _ z => z
      rw [fail_T x hrt]
      rw [List.range_succ, List.filter_append]
      cases c : (failB x (vT (tS (i : Int) es k))) with
      | true =>
        refine iteT ⟨_, rfl, _, e56 _ _ hl5, ?_, (e35.trans e56).put hC, ?_⟩
        · rw [List.length_map, List.length_map, sizeLine_eq]
          have := List.length_filter_le (fun (j : Nat) => (failB x (vT (tS (j : Int) es k)))) (List.range i)
          rw [List.length_range] at this
          omega
        · rw [upd_same, List.filter_cons, c, if_pos rfl, List.map_append, List.map_append]
          rfl
      | false =>
        refine iteF ⟨e35.trans e56, ?_⟩
        rw [List.filter_cons, c, if_neg Bool.false_ne_true, List.filter_nil, List.append_nil]
        exact e56 _ _ hl5
    rintro H4 ⟨e43, hC4⟩
    have hlen : rs.length = (modOf es).toNat := by omega
    rw [hlen] at hC4
    refine ⟨_, rfl, _, _, rfl, ⟨by decide, by decide, by omega, by omega⟩, fun F hF => lc_it (walk_range (lo := 1) (n := (st - 1).toNat)) (fun i H' => Same H4 H' ∧ H' F = some (.lst ((((List.range i).map fun (j : Nat) => 1 + (j : Int)).filter fun d => (failB x (valT (tL d es k)))).map V.int))) ⟨Same.new hF, upd_same⟩ (fun _ _ _ _ => trivial) ?_ ?_⟩
    · rintro i x1 H5 H6 hi ⟨e5, hl5⟩ ⟨eH, rfl⟩
      have eH2 : H5 = H6 := eH.symm
      subst eH2
      have e35 := e43.trans e5
      have hD5 := hD3.mono e35
      refine ⟨rfl, ?_⟩
      obtain ⟨a0, vs0, rfl, d1, d2, d3⟩ := id hD5
      obtain ⟨du, hdu, hdx⟩ := d3 k x hx0
      refine ⟨_, rfl, _, rfl, a0, _, _, _, rfl, rfl, d1, atI_nat hdu, _, rfl, _, rfl, .ref a0, es, 1 + (i : Int), rfl, hD5, ho1, by omega, by omega, by omega, fun H6 A e56 hA hA6 => ?_⟩
      have e56 : Same H5 H6 := e56
      have hav : ((toldL (1 + (i : Int)) es).map valT)[k]? = some (valT (tL (1 + (i : Int)) es k)) := by
        rw [List.getElem?_map, tL_get hke]
        rfl
      refine ⟨_, rfl, A, _, _, _, rfl, rfl, SqL.of hA6, atI_nat hav, du, x, _, rfl, hdx.mono e56, plain_told, _, rfl, ?_⟩
      rw [List.range_succ, List.map_append, List.filter_append, show (List.map (fun (j : Nat) => 1 + (j : Int)) [i]) = [1 + (i : Int)] from rfl]
      cases c : (failB x (valT (tL (1 + (i : Int)) es k))) with
      | true =>
        refine iteT ⟨_, rfl, _, e56 _ _ hl5, ?_, (e5.trans e56).put hF, ?_⟩
        · rw [List.length_map, sizeLine_eq]
          have := List.length_filter_le (fun d => (failB x (valT (tL d es k)))) ((List.range i).map fun (j : Nat) => 1 + (j : Int))
          rw [List.length_map, List.length_range] at this
          omega
        · rw [upd_same, List.filter_cons, c, if_pos rfl, List.map_append]
          rfl
      | false =>
        refine iteF ⟨e5.trans e56, ?_⟩
        rw [List.filter_cons, c, if_neg Bool.false_ne_true, List.filter_nil, List.append_nil]
        exact e56 _ _ hl5
    rintro H5 ⟨e53, hF5⟩
    refine ⟨_, rfl, D, _, rfl, .inl (SqL.of (e43.trans e53 _ _ hrs)), _, rfl, _, rfl, _, rfl, modOf es, st, C, F, _, _, by rw [lrs]; rfl, e53 _ _ hC4, hF5, hm, ?_, ?_, s1, by omega, fun H6 r e6 hs => ?_⟩
    · exact nodup_map_inj ((List.filter_sublist).nodup List.nodup_range) fun a _ b _ e => by omega
    · intro c hc
      obtain ⟨j, hj, rfl⟩ := List.mem_map.mp hc
      have := List.mem_range.mp (List.mem_filter.mp hj).1
      omega
    · have e6 : Same H5 H6 := e6
      refine kk H6 r (((((e1.trans e2).trans e3).trans e43).trans e53).trans e6) (hs.congr fun d hd => ?_)
      by_cases c : d < st
      · rw [if_pos c]
        have : d ∈ ((List.range (st - 1).toNat).map fun (j : Nat) => 1 + (j : Int)).filter (fun d => (failB x (valT (tL d es k)))) ↔ (failB x (valT (tL d es k))) = true := by
          rw [List.mem_filter]
          refine ⟨fun z => z.2, fun z => ⟨List.mem_map.mpr ⟨(d - 1).toNat, List.mem_range.mpr (by omega), by omega⟩, z⟩⟩
        rw [Bool.eq_iff_iff, decide_eq_true_eq]
        exact this
      · rw [if_neg c]
        have a0 : 0 ≤ d % modOf es := Int.emod_nonneg _ (by omega)
        have a1 : d % modOf es < modOf es := Int.emod_lt_of_pos _ (by omega)
        have : d % modOf es ∈ ((List.range (modOf es).toNat).filter fun (j : Nat) => (failB x (vT (tS (j : Int) es k)))).map (fun (j : Nat) => (j : Int)) ↔ (failB x (vT (tS (d % modOf es) es k))) = true := by
          rw [List.mem_map]
          constructor
          · rintro ⟨j, hj, e⟩
            have := (List.mem_filter.mp hj).2
            rw [e] at this
            exact this
          · intro z
            exact ⟨(d % modOf es).toNat, List.mem_filter.mpr ⟨List.mem_range.mpr (by omega), by rw [Int.toNat_of_nonneg a0]; exact z⟩, Int.toNat_of_nonneg a0⟩
        rw [Bool.eq_iff_iff, decide_eq_true_eq]
        exact this.trans (by rw [fail_compat (rows_tell ho1 hrow (by omega) hke)])
end
end Rln
end
section
set_option Elab.async false
set_option linter.all false
set_option maxRecDepth 100000
set_option maxHeartbeats 4000000
namespace Rln
open PySem PySem.Spec PyProof.Rows L2
def failI (ds : List (Deed Str)) (f : Nat → V) (i : Nat) : Bool := match ds[i]? with
  | some x => failB x (f i)
  | none => false
def carries (ds : List (Deed Str)) (d : Int) : Bool := !((List.range ds.length).any (failI ds fun i => valT (tL d ds i)))
theorem car_eq {ds : List (Deed Str)} (ho : ∀ x ∈ ds, deedOk x) {st : Int} (h : ∀ e, st ≤ e → e < boundOf ds → rowOk ds e) {d : Int} (hd : st ≤ d) :
    (!((List.range ds.length).any (failI ds fun i => vT (tS (d % modOf ds) ds i)))) = !((List.range ds.length).any (failI ds fun i => valT (tL d ds i))) := by
  congr 1
  rw [Bool.eq_iff_iff, List.any_eq_true, List.any_eq_true]
  have e : ∀ i, i ∈ List.range ds.length → (failI ds (fun i => vT (tS (d % modOf ds) ds i)) i = failI ds (fun i => valT (tL d ds i)) i) := fun i hi => by
    have hi := List.mem_range.mp hi
    unfold failI
    rw [List.getElem?_eq_getElem hi]
    exact (fail_compat (rows_tell ho h hd hi)).symm
  constructor
  · rintro ⟨i, hi, z⟩
    exact ⟨i, hi, by rw [← e i hi]; exact z⟩
  · rintro ⟨i, hi, z⟩
    exact ⟨i, hi, by rw [e i hi]; exact z⟩
section
variable {P : Program} {w : World} {K : PySem.W.Frag} {mg : Str → Option Value} {base : Heap}
abbrev N_is_carried : List Str := ["deeds", "told", "deed", "one"]
theorem sc_is_carried : FnScope N_is_carried ["deeds", "told"] (defScope s_is_carried) := ⟨rfl, rfl, rfl, by decide +kernel, rfl, by decide +kernel, by decide +kernel⟩
def spCarried (K : PySem.W.Frag) : Sp := fun vs H Q _ => ∃ (v : V) (ds : List (Deed Str)) (A : Addr) (us : List V) (f : Nat → Bool), vs = [v, .ref A] ∧ DsAt K H v ds ∧ H A = some (.lst us) ∧ us.length = ds.length ∧ ds.length ≤ 20 ∧
  (∀ (i : Nat) x u, ds[i]? = some x → us[i]? = some u → plainV u ∧ f i = failB x u) ∧ ∀ H', Same H H' → Q (.bl (!((List.range ds.length).any f))) H'
theorem cal_is_carried (T : Tx K mg) : Cal P w K mg base 3 "is_carried" (spCarried K) [] := by
  refine calD T.f_is_carried T.g_is_carried sc_is_carried (fun vs H Q E h => ?_) (fun _ _ _ _ _ _ us hl => match us, hl with | [_, _], _ => rfl) (fun cdv A outer s H vs Q E hr h => ?_)
  · obtain ⟨v, _, _, _, _, rfl, _⟩ := h
    rfl
  · obtain ⟨v, ds, A0, us, f, rfl, ⟨a, vs0, rfl, d1, d2, d3⟩, hA, hl, hl2, hf, k⟩ := h
    refine ⟨_, (pss_one (ps_ret (pe_not (pe_callB (cr_any rfl) (by rfl) T.n_any (by decide +kernel) (pa_cons (pe_lc (own := [("deed", 2), ("one", 3)]) rfl sc_is_carried.nd (pi_zipM (by rfl) T.n_zip (pa_cons (pv 0) (pa_cons (pv 1) pa_nil))) (blkOk_by (N := N_is_carried) (sc := defScope s_is_carried) (own := [("deed", 2), ("one", 3)]) (by decide +kernel)) (fun _ _ _ _ _ => (pg_tupB (K := K) (n := 2) rfl rfl (pgs_cons (pg_name (i := 2) sc_is_carried.nd rfl (Or.inl rfl)) (pgs_cons (pg_name (i := 3) sc_is_carried.nd rfl (Or.inl rfl)) pgs_nil)))) (fun _ _ _ _ _ => pts_nil) (fun _ _ _ _ _ => (C8.pe_c (cal_fails T) hr (by decide) (by rfl) (pa_cons (pv 2) (pa_cons (pv 3) pa_nil))))) pa_nil))))), ?_⟩
    refine ⟨_, rfl, _, rfl, a, A0, vs0, us, rfl, d1, SqL.of hA, fun D hD => lc_it (walk_zipM (xs := vs0) (ys := us) (by omega)) (fun i H' => Same H H' ∧ H' D = some (.lst (((List.range i).map f).map V.bl))) ⟨Same.new hD, upd_same⟩ (fun i H' _ h => ⟨h.1.sqt d1, SqL.of (h.1 _ _ hA)⟩) ?_ ?_⟩
    · rintro i x1 H4 H5 hi ⟨e4, hl4⟩ ⟨t, x2, y2, rfl, ht, rfl, hx2, hy2⟩
      have hi' : i < ds.length := by omega
      obtain ⟨du, hdu, hdx⟩ := d3 i ds[i] (List.getElem?_eq_getElem hi')
      dsimp only at hx2 hy2
      have ex : du = x2 := Option.some.inj (hdu.symm.trans hx2)
      subst ex
      obtain ⟨g1, g2⟩ := hf i ds[i] y2 (List.getElem?_eq_getElem hi') hy2
      have e45 : Same H4 (upd H4 t (.tup [du, y2])) := Same.new ht
      refine ⟨t, _, rfl, SqT.of upd_same, rfl, _, _, rfl, _, _, rfl, rfl, rfl, lcYes (iteT ?_)⟩
      refine ⟨_, rfl, _, rfl, du, ds[i], y2, rfl, (hdx.mono e4).mono e45, g1, _, e45 _ _ hl4, ?_, (e4.trans e45).put hD, ?_⟩
      · rw [List.length_map, List.length_map, List.length_range, sizeLine_eq]
        omega
      · rw [upd_same, List.range_succ, List.map_append, List.map_append, ← g2]
        rfl
    · rintro H1 ⟨e1, hl1⟩
      refine ⟨D, _, rfl, SqL.of hl1, _, rfl, ?_⟩
      have k' := k H1 e1
      have : ((List.range vs0.length).map f).any id = (List.range ds.length).any f := by
        rw [d2, List.any_map]
        rfl
      rw [this]
      exact k'
abbrev N_carrying_of : List Str := ["deeds", "rows", "start", "classes", "early", "remainder", "row", "distance"]
theorem sc_carrying_of : FnScope N_carrying_of ["deeds"] (defScope s_carrying_of) := ⟨rfl, rfl, rfl, by decide +kernel, rfl, by decide +kernel, by decide +kernel⟩
def spCarOf (K : PySem.W.Frag) : Sp := fun vs H Q _ => ∃ (v : V) (ds : List (Deed Str)), vs = [v] ∧ DsAt K H v ds ∧ (∀ x ∈ ds, deedOk x) ∧ ds.length ≤ 19 ∧ boundOf ds ≤ 61 ∧ ∀ H' r, Same H H' → SetAt K H' r (carries ds) → Q r H'
theorem cal_carrying_of (T : Tx K mg) : Cal P w K mg base 10 "carrying_of" (spCarOf K) [] := by
  refine calD T.f_carrying_of T.g_carrying_of sc_carrying_of (fun vs H Q E h => ?_) (fun _ _ _ _ _ _ us hl => match us, hl with | [_], _ => rfl) (fun cdv A outer s H vs Q E hr h => ?_)
  · obtain ⟨v, _, rfl, _⟩ := h
    rfl
  · obtain ⟨u, es, rfl, hD1, ho1, hl1, hb1, kk⟩ := h
    refine ⟨_, (pss_cons (ps_set (i := 1) sc_carrying_of.nd rfl (Or.inl rfl) (C8.pe_c (cal_rows_of T) hr (by decide) (by rfl) (pa_cons (pv 0) pa_nil)))
      (pss_cons (ps_set (i := 2) sc_carrying_of.nd rfl (Or.inl rfl) (C8.pe_c (cal_start_of T) hr (by decide) (by rfl) (pa_cons (pv 0) (pa_cons (pv 1) pa_nil))))
      (pss_cons (ps_setLc (i := 3) (own := [("remainder", 5), ("row", 6)]) rfl sc_carrying_of.nd rfl rfl (sw_true rfl rfl rfl (by decide +kernel)) (pi_enum (by rfl) T.n_enumerate (pa_cons (pv 1) pa_nil)) (blkOk_by (N := N_carrying_of) (sc := defScope s_carrying_of) (own := [("remainder", 5), ("row", 6)]) (by decide +kernel)) (fun _ _ _ _ _ => (pg_tupB (K := K) (n := 2) rfl rfl (pgs_cons (pg_name (i := 5) sc_carrying_of.nd rfl (Or.inl rfl)) (pgs_cons (pg_name (i := 6) sc_carrying_of.nd rfl (Or.inl rfl)) pgs_nil)))) (fun _ _ _ _ _ => pts_one (pt_val (C8.pe_c (cal_is_carried T) hr (by decide) (by rfl) (pa_cons (pv 0) (pa_cons (pv 6) pa_nil))))) (fun _ _ _ _ _ => (pv 5)))
      (pss_cons (ps_setLc (i := 4) (own := [("distance", 7)]) rfl sc_carrying_of.nd rfl rfl (sw_true rfl rfl rfl (by decide +kernel)) (pi_range2 (by rfl) T.n_range (pa_cons pe_int (pa_cons (pv 2) pa_nil))) (blkOk_by (N := N_carrying_of) (sc := defScope s_carrying_of) (own := [("distance", 7)]) (by decide +kernel)) (fun _ _ _ _ _ => (pg_name (i := 7) sc_carrying_of.nd rfl (Or.inl rfl))) (fun _ _ _ _ _ => pts_one (pt_val (C8.pe_c (cal_is_carried T) hr (by decide) (by rfl) (pa_cons (pv 0) (pa_cons (C8.pe_c (cal_told_of T) hr (by decide) (by rfl) (pa_cons (pv 0) (pa_cons (pv 7) pa_nil))) pa_nil))))) (fun _ _ _ _ _ => (pv 7)))
      (pss_one (ps_ret (C8.pe_c (cal_set_of T) hr (by decide) (by rfl) (pa_cons (pe_callB call_len_seq (by rfl) T.n_len (by decide +kernel) (pa_cons (pv 1) pa_nil)) (pa_cons (pv 3) (pa_cons (pv 2) (pa_cons (pv 4) pa_nil))))))))))), ?_⟩
    have e1 : Same H H := fun _ _ z => z
    have hm := modOf_D60 ho1
    have mb := D60_ne hm
    refine ⟨_, rfl, u, es, rfl, hD1, ho1, by omega, fun H2 D e2 hDn hR => ?_⟩
    have e2 : Same H H2 := e2
    refine ⟨_, rfl, _, rfl, u, .ref D, es, rfl, hD1.mono e2, hR, ho1, by omega, by omega, fun H3 st e3 s1 s2 hrow => ?_⟩
    have e3 : Same H2 H3 := e3
    have hD3 := (hD1.mono e2).mono e3
    obtain ⟨_, rs, eD, hrs, lrs, hrows⟩ := hR.mono e3
    cases eD
    refine ⟨_, rfl, D, rs, rfl, SqL.of hrs, fun C hC => lc_it (walk_enum (xs := rs)) (fun i H' => Same H3 H' ∧ H' C = some (.lst ((((List.range i).filter fun (j : Nat) => (!((List.range es.length).any (failI es fun q => vT (tS (j : Int) es q))))).map fun (j : Nat) => (j : Int)).map V.int))) ⟨Same.new hC, upd_same⟩ (fun i H' _ h => SqL.of (h.1 _ _ hrs)) ?_ ?_⟩
    · rintro i x1 H4 H5 hi ⟨e4, hl4⟩ ⟨t, x2, y2, rfl, ht, rfl, hx2, hy2⟩
      cases hx2
      obtain ⟨E', us', g1, g2, g3⟩ := hrows i (by omega)
      have ey : .ref E' = y2 := Option.some.inj (g1.symm.trans hy2)
      subst ey
      have e45 : Same H4 (upd H4 t (.tup [.int (i : Nat), .ref E'])) := Same.new ht
      have e35 := e4.trans e45
      have hE5 := e35 _ _ g2
      have hl5 := e45 _ _ hl4
      have hD5 := hD3.mono e35
      refine ⟨t, _, rfl, SqT.of upd_same, rfl, _, _, rfl, _, _, rfl, rfl, rfl, ?_⟩
      generalize upd H4 t (.tup [.int (i : Nat), .ref E']) = H5 at e45 e35 hE5 hl5 hD5
      have e56' : True := trivial
      refine ⟨_, rfl, _, rfl, u, es, E', us', failI es (fun j => vT (tS i es j)), rfl, hD5, hE5, ?_, by omega, fun j x0 u0 hx hu => ?_, fun H6 e56 => ⟨_, rfl, ?_⟩⟩
      · rw [g3.len]
        exact runS_len i es sw0
      · have hj : j < es.length := (List.getElem?_eq_some_iff.mp hx).1
        obtain ⟨ru, hru, hrt⟩ := g3.get (tS_get (r := i) hj)
        rw [hru] at hu
        cases hu
        refine ⟨plain_T hrt, ?_⟩
        unfold failI
        rw [hx]
        exact (fail_T x0 hrt).symm
      have e56 : Same H5 H6 := e56
      rw [List.range_succ, List.filter_append]
      cases c : (!((List.range es.length).any (failI es fun q => vT (tS (i : Int) es q)))) with
      | true =>
        refine iteT ⟨_, rfl, _, e56 _ _ hl5, ?_, (e35.trans e56).put hC, ?_⟩
        · rw [List.length_map, List.length_map, sizeLine_eq]
          have := List.length_filter_le (fun (j : Nat) => (!((List.range es.length).any (failI es fun q => vT (tS (j : Int) es q))))) (List.range i)
          rw [List.length_range] at this
          omega
        · rw [upd_same, List.filter_cons, c, if_pos rfl, List.map_append, List.map_append]
          rfl
      | false =>
        refine iteF ⟨e35.trans e56, ?_⟩
        rw [List.filter_cons, c, if_neg Bool.false_ne_true, List.filter_nil, List.append_nil]
        exact e56 _ _ hl5
    rintro H4 ⟨e43, hC4⟩
    have hlen : rs.length = (modOf es).toNat := by omega
    rw [hlen] at hC4
    refine ⟨_, rfl, _, _, rfl, ⟨by decide, by decide, by omega, by omega⟩, fun F hF => lc_it (walk_range (lo := 1) (n := (st - 1).toNat)) (fun i H' => Same H4 H' ∧ H' F = some (.lst ((((List.range i).map fun (j : Nat) => 1 + (j : Int)).filter fun d => (!((List.range es.length).any (failI es fun q => valT (tL d es q))))).map V.int))) ⟨Same.new hF, upd_same⟩ (fun _ _ _ _ => trivial) ?_ ?_⟩
    · rintro i x1 H5 H6 hi ⟨e5, hl5⟩ ⟨eH, rfl⟩
      have eH2 : H5 = H6 := eH.symm
      subst eH2
      have e35 := e43.trans e5
      have hD5 := hD3.mono e35
      refine ⟨rfl, ?_⟩
      refine ⟨_, rfl, _, rfl, _, rfl, u, es, 1 + (i : Int), rfl, hD5, ho1, by omega, by omega, by omega, fun H7 A e57 hA hA7 => ?_⟩
      have e57 : Same H5 H7 := e57
      refine ⟨u, es, A, _, failI es (fun j => valT (tL (1 + (i : Int)) es j)), rfl, hD5.mono e57, hA7, ?_, by omega, fun j x0 u0 hx hu => ?_, fun H6 e76 => ⟨_, rfl, ?_⟩⟩
      · rw [List.length_map]
        exact runL_len _ es lw0
      · have hj : j < es.length := (List.getElem?_eq_some_iff.mp hx).1
        rw [List.getElem?_map, tL_get hj] at hu
        cases hu
        refine ⟨plain_told, ?_⟩
        unfold failI
        rw [hx]
      have e56 : Same H5 H6 := e57.trans e76
      rw [List.range_succ, List.map_append, List.filter_append, show (List.map (fun (j : Nat) => 1 + (j : Int)) [i]) = [1 + (i : Int)] from rfl]
      cases c : (!((List.range es.length).any (failI es fun q => valT (tL (1 + (i : Int)) es q)))) with
      | true =>
        refine iteT ⟨_, rfl, _, e56 _ _ hl5, ?_, (e5.trans e56).put hF, ?_⟩
        · rw [List.length_map, sizeLine_eq]
          have := List.length_filter_le (fun d => (!((List.range es.length).any (failI es fun q => valT (tL d es q))))) ((List.range i).map fun (j : Nat) => 1 + (j : Int))
          rw [List.length_map, List.length_range] at this
          omega
        · rw [upd_same, List.filter_cons, c, if_pos rfl, List.map_append]
          rfl
      | false =>
        refine iteF ⟨e5.trans e56, ?_⟩
        rw [List.filter_cons, c, if_neg Bool.false_ne_true, List.filter_nil, List.append_nil]
        exact e56 _ _ hl5
    rintro H5 ⟨e53, hF5⟩
    refine ⟨_, rfl, D, _, rfl, .inl (SqL.of (e43.trans e53 _ _ hrs)), _, rfl, _, rfl, _, rfl, modOf es, st, C, F, _, _, by rw [lrs]; rfl, e53 _ _ hC4, hF5, hm, ?_, ?_, s1, by omega, fun H6 r e6 hs => ?_⟩
    · exact nodup_map_inj ((List.filter_sublist).nodup List.nodup_range) fun a _ b _ e => by omega
    · intro c hc
      obtain ⟨j, hj, rfl⟩ := List.mem_map.mp hc
      have := List.mem_range.mp (List.mem_filter.mp hj).1
      omega
    · have e6 : Same H5 H6 := e6
      refine kk H6 r (((((e1.trans e2).trans e3).trans e43).trans e53).trans e6) (hs.congr fun d hd => ?_)
      by_cases c : d < st
      · rw [if_pos c]
        have : d ∈ ((List.range (st - 1).toNat).map fun (j : Nat) => 1 + (j : Int)).filter (fun d => (!((List.range es.length).any (failI es fun q => valT (tL d es q))))) ↔ (!((List.range es.length).any (failI es fun q => valT (tL d es q)))) = true := by
          rw [List.mem_filter]
          refine ⟨fun z => z.2, fun z => ⟨List.mem_map.mpr ⟨(d - 1).toNat, List.mem_range.mpr (by omega), by omega⟩, z⟩⟩
        rw [Bool.eq_iff_iff, decide_eq_true_eq]
        exact this
      · rw [if_neg c]
        have a0 : 0 ≤ d % modOf es := Int.emod_nonneg _ (by omega)
        have a1 : d % modOf es < modOf es := Int.emod_lt_of_pos _ (by omega)
        have : d % modOf es ∈ ((List.range (modOf es).toNat).filter fun (j : Nat) => (!((List.range es.length).any (failI es fun q => vT (tS (j : Int) es q))))).map (fun (j : Nat) => (j : Int)) ↔ (!((List.range es.length).any (failI es fun q => vT (tS (d % modOf es) es q)))) = true := by
          rw [List.mem_map]
          constructor
          · rintro ⟨j, hj, e⟩
            have := (List.mem_filter.mp hj).2
            rw [e] at this
            exact this
          · intro z
            exact ⟨(d % modOf es).toNat, List.mem_filter.mpr ⟨List.mem_range.mpr (by omega), by rw [Int.toNat_of_nonneg a0]; exact z⟩, Int.toNat_of_nonneg a0⟩
        rw [Bool.eq_iff_iff, decide_eq_true_eq]
        exact this.trans (by rw [car_eq ho1 hrow (by omega)]; rfl)
end
end Rln
end
section
set_option Elab.async false
set_option linter.all false
set_option maxRecDepth 100000
set_option maxHeartbeats 4000000
namespace Rln
open PySem PySem.Spec PyProof.Rows L2
theorem SetAt.two {K : PySem.W.Frag} {H : Hp} {u v : V} {S S' : Int → Bool} (a : SetAt K H u S) (b : SetAt K H v S') : Two (cDist K) u v H := by
  obtain ⟨p, dx, _, _, _, rfl, hp, _⟩ := a
  obtain ⟨q, dy, _, _, _, rfl, hq, _⟩ := b
  exact ⟨p, q, dx, dy, _, _, rfl, rfl, hp, hq⟩
theorem show_compat {uw : V} (hn : ∀ i, uw ≠ .int i) {a t : TV Str} (h : compatV a t) : decide (vT t = uw) = decide (valT a = uw) := by
  cases t with
  | form =>
    obtain ⟨i, rfl⟩ := h
    rw [decide_eq_false (fun z => hn 0 z.symm), decide_eq_false (fun z => hn i z.symm)]
  | _ =>
    have e := h
    unfold compatV at e
    rw [e]
    rfl
def showAt (ds : List (Deed Str)) (k : Nat) (uw : V) (d : Int) : Bool := decide (valT (tL d (ds.take (k + 1)) k) = uw)
section
variable {P : Program} {w : World} {K : PySem.W.Frag} {mg : Str → Option Value} {base : Heap}
abbrev N_showing_of : List Str := ["deeds", "index", "what", "rows", "start", "modulus", "classes", "single", "remainder", "row", "shown", "early", "distance"]
theorem sc_showing_of : FnScope N_showing_of ["deeds", "index", "what"] (defScope s_showing_of) := ⟨rfl, rfl, rfl, by decide +kernel, rfl, by decide +kernel, by decide +kernel⟩
def spShowOf (K : PySem.W.Frag) : Sp := fun vs H Q _ => ∃ (v : V) (ds : List (Deed Str)) (k : Nat) (uw : V), vs = [v, .int k, uw] ∧ DsAt K H v ds ∧ (∀ x ∈ ds, deedOk x) ∧ ds.length ≤ 19 ∧ boundOf ds ≤ 61 ∧ k < ds.length ∧ flat4 uw = true ∧ isI uw = false ∧ ∀ H' r, Same H H' → SetAt K H' r (showAt ds k uw) → Q r H'
theorem cal_showing_of (T : Tx K mg) : Cal P w K mg base 10 "showing_of" (spShowOf K) [] := by
  refine calD T.f_showing_of T.g_showing_of sc_showing_of (fun vs H Q E h => ?_) (fun _ _ _ _ _ _ us hl => match us, hl with | [_, _, _], _ => rfl) (fun cdv A outer s H vs Q E hr h => ?_)
  · obtain ⟨v, _, _, _, rfl, _⟩ := h
    rfl
  · obtain ⟨v, ds, k, uw, rfl, hD, ho, hl, hb, hk, hfw, hiw, kk⟩ := h
    have hnI : ∀ i, uw ≠ .int i := fun i z => by
      rw [z] at hiw
      cases hiw
    refine ⟨_, (pss_cons (ps_set (i := 0) sc_showing_of.nd rfl (Or.inr rfl) (pe_slice sl_tupA (pv 0) po_none (po_some (pe_op op_add (pv 1) pe_int))))
      (pss_cons (ps_set (i := 3) sc_showing_of.nd rfl (Or.inl rfl) (C8.pe_c (cal_rows_of T) hr (by decide) (by rfl) (pa_cons (pv 0) pa_nil)))
      (pss_cons (ps_par (i := 4) (j := 5) (by rfl) sc_showing_of.nd rfl rfl (by decide) rfl rfl (pa_cons (C8.pe_c (cal_start_of T) hr (by decide) (by rfl) (pa_cons (pv 0) (pa_cons (pv 3) pa_nil))) (pa_cons (pe_callB call_len_seq (by rfl) T.n_len (by decide +kernel) (pa_cons (pv 3) pa_nil)) pa_nil)) (by rfl))
      (pss_cons (ps_par (i := 6) (j := 7) (by rfl) sc_showing_of.nd rfl rfl (by decide) rfl rfl (pa_cons (pe_lst pa_nil) (pa_cons (pe_lst pa_nil) pa_nil)) (by rfl))
      (pss_cons (ps_for PassesOwn.never rfl (pi_enum (by rfl) T.n_enumerate (pa_cons (pv 3) pa_nil)) (pg_tup rfl (pgs_cons (pg_name (i := 8) sc_showing_of.nd rfl (Or.inl rfl)) (pgs_cons (pg_name (i := 9) sc_showing_of.nd rfl (Or.inl rfl)) pgs_nil))) (pss_cons (ps_set (i := 10) sc_showing_of.nd rfl (Or.inl rfl) (pe_ix ix_list (pv 9) (pv 1) (fun _ _ => rfl)))
      (pss_one (ps_if (pt_not (pt_val (pe_callB call_isi (by rfl) T.n_isinstance (by decide +kernel) (pa_cons (pv 10) (pa_cons (pe_glob (v := .ref _) (by rfl) T.g_Form rfl) pa_nil))))) (pss_one (ps_expr (pe_bm PySem.F.plainAttrs_list PySem.F.slot_list_extend PySem.F.type_list_extend mt_extend (pv 6) (pa_cons (pe_ifExp (pt_val (C8.pe_c (cal_is_same T) hr (by decide) (by rfl) (pa_cons (pv 10) (pa_cons (pv 2) pa_nil)))) (pe_lst (pa_cons (pv 8) pa_nil)) (pe_lst pa_nil)) pa_nil)))) (pss_one (ps_if (PW.pt (pw_and (pt_val (C8.pe_c (cal_is_whole T) hr (by decide) (by rfl) (pa_cons (pv 2) pa_nil))) (pw_and1 (pt_cmpR op_eq (pe_ix ix_tup (C8.pe_mt0 (met_parts T) hr (by decide) (pv 10)) pe_int (fun _ _ => rfl)) pe_int (nomark _))))) (pss_one (ps_never)) (pss_one (ps_if (pt_val (C8.pe_c (cal_is_whole T) hr (by decide) (by rfl) (pa_cons (pv 2) pa_nil))) (pss_one (ps_never)) pss_nil))))))))
      (pss_cons (ps_setLc (i := 11) (own := [("distance", 12)]) rfl sc_showing_of.nd rfl rfl (sw_true rfl rfl rfl (by decide +kernel)) (pi_range2 (by rfl) T.n_range (pa_cons pe_int (pa_cons (pv 4) pa_nil))) (blkOk_by (N := N_showing_of) (sc := defScope s_showing_of) (own := [("distance", 12)]) (by decide +kernel)) (fun _ _ _ _ _ => (pg_name (i := 12) sc_showing_of.nd rfl (Or.inl rfl))) (fun _ _ _ _ _ => pts_one (pt_val (C8.pe_c (cal_is_same T) hr (by decide) (by rfl) (pa_cons (pe_ix (ix_listB (K := K) rfl) (C8.pe_c (cal_told_of T) hr (by decide) (by rfl) (pa_cons (pv 0) (pa_cons (pv 12) pa_nil))) (pv 1) (fun _ _ => rfl)) (pa_cons (pv 2) pa_nil))))) (fun _ _ _ _ _ => (pv 12)))
      (pss_one (ps_ret (pe_op (op_own (op := .BitXor) (met_xor T) T.sf_Dist (hr.mono (by decide))) (C8.pe_c (cal_set_of T) hr (by decide) (by rfl) (pa_cons (pv 5) (pa_cons (pv 6) (pa_cons (pv 4) (pa_cons (pv 11) pa_nil))))) (C8.pe_mk (mak_Dist3 T) hr (by decide) (by rfl) (pa_cons pe_int (pa_cons (pe_tup pa_nil) (pa_cons (pe_callTy call_tuple_of (by rfl) T.n_tuple boot_tuple (pa_cons (pv 7) pa_nil)) pa_nil))))))))))))), ?_⟩
    refine ⟨_, rfl, _, rfl, _, _, rfl, rfl, _, rfl, ?_⟩
    refine ds_slice hD (k + 1) (by omega) fun H1 u e1 hD1 => ?_
    have ho1 : ∀ x ∈ ds.take (k + 1), deedOk x := fun x hx => ho x (List.mem_of_mem_take hx)
    have hl1 : (ds.take (k + 1)).length = k + 1 := by rw [List.length_take]; omega
    have hb1 := bound_take ds (k + 1)
    have efa : showAt ds k uw = fun d => decide (valT (tL d (ds.take (k + 1)) k) = uw) := rfl
    rw [efa] at kk
    generalize ds.take (k + 1) = es at hD1 ho1 hl1 hb1 kk
    have hke : k < es.length := by omega
    have hm := modOf_D60 ho1
    have mb := D60_ne hm
    refine ⟨_, rfl, u, es, rfl, hD1, ho1, by omega, fun H2 D e2 hDn hR => ?_⟩
    have e2 : Same H1 H2 := e2
    refine ⟨_, rfl, _, rfl, u, .ref D, es, rfl, hD1.mono e2, hR, ho1, by omega, by omega, fun H3 st e3 s1 s2 hrow => ?_⟩
    have e3 : Same H2 H3 := e3
    have hD3 := (hD1.mono e2).mono e3
    obtain ⟨_, rs, eD, hrs, lrs, hrows⟩ := hR.mono e3
    cases eD
    refine ⟨_, rfl, D, _, rfl, .inl (SqL.of hrs), _, _, rfl, ?_⟩
    rw [lrs]
    refine ⟨by decide, fun C hC => ⟨by decide, fun G hG => ⟨_, _, rfl, ?_⟩⟩⟩
    have nGC : G ≠ C := Ne.symm (ne_of_none upd_same hG)
    have hG3 : H3 G = none := by
      rw [upd_ne nGC] at hG
      exact hG
    have e30 : Same H3 (upd (upd H3 C (.lst [])) G (.lst [])) := (Same.new hC).add hG
    have hC0 : upd (upd H3 C (.lst [])) G (.lst []) C = some (.lst []) := by rw [upd_ne (Ne.symm nGC), upd_same]
    have hG0 : upd (upd H3 C (.lst [])) G (.lst []) G = some (.lst []) := upd_same
    generalize upd (upd H3 C (.lst [])) G (.lst []) = H30 at e30 hC0 hG0
    have back : ∀ H', Sx C H30 H' → Same H3 H' := fun H' e b z ez => e b z (ne_of_none ez hC) (e30 b z ez)
    refine ⟨_, rfl, D, rs, rfl, SqL.of (e30 _ _ hrs), for_it (walk_enum (xs := rs)) (fun i σ' H' => Sx C H30 H' ∧ (∃ x1 x2 x3, σ' = [some u, some (.int k), some uw, some (.ref D), some (.int st), some (.int (modOf es)), some (.ref C), some (.ref G), x1, x2, x3, none, none]) ∧ H' C = some (.lst ((((List.range i).filter fun (j : Nat) => decide (vT (tS (j : Int) es k) = uw)).map fun (j : Nat) => (j : Int)).map V.int))) ⟨fun _ _ _ z => z, ⟨_, _, _, rfl⟩, hC0⟩ (fun i σ' H' _ h => SqL.of (back H' h.1 _ _ hrs)) ?_ ?_⟩
    · rintro i x1 σ' H4 H5 hi ⟨e4, ⟨y1, y2, y3, rfl⟩, hl4⟩ ⟨t, x2, yy, rfl, ht, rfl, hx2, hy2⟩
      cases hx2
      obtain ⟨E', us', g1, g2, g3⟩ := hrows i (by omega)
      have ey : .ref E' = yy := Option.some.inj (g1.symm.trans hy2)
      subst ey
      have e45 : Same H4 (upd H4 t (.tup [.int (i : Nat), .ref E'])) := Same.new ht
      have e35 := (back H4 e4).trans e45
      have hE5 := e35 _ _ g2
      have hl5 := e45 _ _ hl4
      have e5 : Sx C H30 (upd H4 t (.tup [.int (i : Nat), .ref E'])) := e4.trans (Same.sx e45)
      refine ⟨t, _, rfl, SqT.of upd_same, rfl, _, _, rfl, _, _, rfl, rfl, ?_⟩
      generalize upd H4 t (.tup [.int (i : Nat), .ref E']) = H5 at e45 e35 hE5 hl5 e5
      obtain ⟨ru, hru, hrt⟩ := g3.get (tS_get (r := i) hke)
      have hrt5 := hrt.mono e35
      refine ⟨_, rfl, _, rfl, E', _, _, _, rfl, rfl, SqL.of hE5, atI_nat hru, ?_⟩
      have rng : (((List.range (i + 1)).filter fun (j : Nat) => decide (vT (tS (j : Int) es k) = uw)).map fun (j : Nat) => (j : Int)).map V.int = (((List.range i).filter fun (j : Nat) => decide (vT (tS (j : Int) es k) = uw)).map fun (j : Nat) => (j : Int)).map V.int ++ (if (decide (vT (tS (i : Int) es k) = uw)) = true then [V.int (i : Int)] else []) := by
        rw [List.range_succ, List.filter_append, List.map_append, List.map_append, List.filter_cons]
        cases decide (vT (tS (i : Int) es k) = uw) <;> rfl
      have notform : ∀ t', tS (i : Int) es k = t' → t' ≠ .form → flat4 ru = true ∧ ru = vT t' := fun t' et nf => by
        rw [et] at hrt5
        cases t' with
        | form => exact absurd rfl nf
        | int _ => exact False.elim hrt5
        | _ =>
          have e := hrt5
          unfold TAt at e
          subst e
          exact ⟨told_flat, rfl⟩
      by_cases cf : tS (i : Int) es k = .form
      · rw [cf] at hrt5
        obtain ⟨f, fdx, r, xa, xb, xq, rfl, h1, h2, _⟩ := hrt5
        refine ⟨_, rfl, _, _, _, _, _, rfl, .own _, ty_ins T.ins_Form h1, T.ins_Form.me, _, rfl, iteF ?_⟩
        refine ⟨_, rfl, uw, rfl, hfw, _, rfl, ?_⟩
        rw [hiw]
        refine iteF ⟨_, rfl, uw, rfl, hfw, _, rfl, ?_⟩
        rw [hiw]
        refine iteF ⟨e5, ⟨_, _, _, rfl⟩, ?_⟩
        rw [rng, cf, decide_eq_false (fun z => hnI 0 z.symm), if_neg Bool.false_ne_true, List.append_nil]
        exact hl5
      · obtain ⟨hfr, hrv⟩ := notform _ rfl cf
        refine ⟨_, rfl, _, _, _, _, _, rfl, .own _, ty_flat hfr, k_form T hfr, _, rfl, iteT ?_⟩
        refine ⟨_, rfl, .inl ⟨rfl, _, SqL.of hl5⟩, _, rfl, _, rfl, ru, uw, rfl, hfr, hfw, _, rfl, ?_⟩
        rw [hrv]
        have lenC : ((((List.range i).filter fun (j : Nat) => decide (vT (tS (j : Int) es k) = uw)).map fun (j : Nat) => (j : Int)).map V.int).length ≤ 60 := by
          rw [List.length_map, List.length_map]
          have := List.length_filter_le (fun (j : Nat) => decide (vT (tS (j : Int) es k) = uw)) (List.range i)
          rw [List.length_range] at this
          omega
        have nC : ∀ zs p, H5 p = none → (upd H5 p (.lst zs)) C = H5 C := fun zs p hp => upd_ne (ne_of_none hl5 hp)
        cases c : decide (vT (tS (i : Int) es k) = uw) with
        | true =>
          rw [c, if_pos rfl] at rng
          refine iteT ⟨_, rfl, by show 1 ≤ sizeLine; decide, fun p hp => ⟨C, p, _, _, rfl, rfl, by rw [nC _ p hp]; exact hl5, upd_same, by show _ + 1 ≤ _; rw [sizeLine_eq]; omega, ?_, ⟨_, _, _, rfl⟩, ?_⟩⟩
          · exact (e5.new hp).put
          · rw [upd_same, rng]
        | false =>
          rw [c, if_neg Bool.false_ne_true] at rng
          refine iteF ⟨by decide, fun p hp => ⟨C, p, _, _, rfl, rfl, by rw [nC _ p hp]; exact hl5, upd_same, by show _ + 0 ≤ _; rw [sizeLine_eq]; omega, ?_, ⟨_, _, _, rfl⟩, ?_⟩⟩
          · exact (e5.new hp).put
          · rw [upd_same, rng]
    rintro σ' H4 ⟨e4, ⟨y1, y2, y3, rfl⟩, hC4⟩
    have e43 := back H4 e4
    have hG4 := e4 _ _ nGC hG0
    have hlen : rs.length = (modOf es).toNat := by omega
    rw [hlen] at hC4
    refine ⟨_, rfl, _, _, rfl, ⟨by decide, by decide, by omega, by omega⟩, fun F hF => lc_it (walk_range (lo := 1) (n := (st - 1).toNat)) (fun i H' => Same H4 H' ∧ H' F = some (.lst ((((List.range i).map fun (j : Nat) => 1 + (j : Int)).filter fun d => (decide (valT (tL d es k) = uw))).map V.int))) ⟨Same.new hF, upd_same⟩ (fun _ _ _ _ => trivial) ?_ ?_⟩
    · rintro i x1 H5 H6 hi ⟨e5, hl5⟩ ⟨eH, rfl⟩
      have eH2 : H5 = H6 := eH.symm
      subst eH2
      have e35 := e43.trans e5
      have hD5 := hD3.mono e35
      refine ⟨rfl, ?_⟩
      obtain ⟨a0, vs0, rfl, d1, d2, d3⟩ := id hD5
      refine ⟨_, rfl, _, rfl, .ref a0, es, 1 + (i : Int), rfl, hD5, ho1, by omega, by omega, by omega, fun H6 A e56 hA hA6 => ?_⟩
      have e56 : Same H5 H6 := e56
      have hav : ((toldL (1 + (i : Int)) es).map valT)[k]? = some (valT (tL (1 + (i : Int)) es k)) := by
        rw [List.getElem?_map, tL_get hke]
        rfl
      refine ⟨_, rfl, A, _, _, _, rfl, rfl, SqL.of hA6, atI_nat hav, _, rfl, _, uw, rfl, told_flat, hfw, _, rfl, ?_⟩
      rw [List.range_succ, List.map_append, List.filter_append, show (List.map (fun (j : Nat) => 1 + (j : Int)) [i]) = [1 + (i : Int)] from rfl]
      cases c : (decide (valT (tL (1 + (i : Int)) es k) = uw)) with
      | true =>
        refine iteT ⟨_, rfl, _, e56 _ _ hl5, ?_, (e5.trans e56).put hF, ?_⟩
        · rw [List.length_map, sizeLine_eq]
          have := List.length_filter_le (fun d => (decide (valT (tL d es k) = uw))) ((List.range i).map fun (j : Nat) => 1 + (j : Int))
          rw [List.length_map, List.length_range] at this
          omega
        · rw [upd_same, List.filter_cons, c, if_pos rfl, List.map_append]
          rfl
      | false =>
        refine iteF ⟨e5.trans e56, ?_⟩
        rw [List.filter_cons, c, if_neg Bool.false_ne_true, List.filter_nil, List.append_nil]
        exact e56 _ _ hl5
    rintro H5 ⟨e53, hF5⟩
    refine ⟨_, rfl, _, rfl, _, rfl, _, rfl, modOf es, st, C, F, _, _, rfl, e53 _ _ hC4, hF5, hm, ?_, ?_, s1, by omega, fun H6 r e6 hs => ?_⟩
    · exact nodup_map_inj ((List.filter_sublist).nodup List.nodup_range) fun a _ b _ e => by omega
    · intro c hc
      obtain ⟨j, hj, rfl⟩ := List.mem_map.mp hc
      have := List.mem_range.mp (List.mem_filter.mp hj).1
      omega
    · have e6 : Same H5 H6 := e6
      have hG6 := e6 _ _ (e53 _ _ hG4)
      refine ⟨by decide, fun tp htp => ?_⟩
      have e7 : Same H6 (upd H6 tp (.tup [])) := Same.new htp
      have htp7 : upd H6 tp (.tup []) tp = some (.tup (([] : List Int).map V.int)) := upd_same
      generalize upd H6 tp (.tup []) = H7 at e7 htp7
      refine ⟨_, rfl, G, _, rfl, .inl ⟨SqL.of (e7 _ _ hG6), fun tq htq => ?_⟩⟩
      have e8 : Same H7 (upd H7 tq (.tup [])) := Same.new htq
      have htq8 : upd H7 tq (.tup []) tq = some (.tup (([] : List Int).map V.int)) := upd_same
      generalize upd H7 tq (.tup []) = H8 at e8 htq8
      intro x dx hx hdx ne
      have up : Same H8 (upd (upd H8 dx (.own x)) x (.ins (cDist K) dx [])) := fun b u z => by
        rw [upd_ne (ne_of_none z hx), upd_ne (ne_of_none z hdx)]
        exact z
      refine ⟨x, dx, _, tp, tq, rfl, upd_same, .inr ⟨1, [], [], rfl, by decide, SqT.of (up _ _ (e8 _ _ htp7)), SqT.of (up _ _ htq8), List.nodup_nil, fun c hc => (by cases hc), List.nodup_nil, fun c hc => (by cases hc), fun H9 s9 hs9 => ⟨rfl, ?_⟩⟩⟩
      have e9 : Same H8 H9 := Sx.made s9 hx hdx
      have hs' := hs.mono ((e7.trans e8).trans e9)
      refine ⟨hs'.two hs9, _, _, _, _, rfl, hs', hs9, fun H10 r10 e10 hs10 => ?_⟩
      refine kk H10 r10 ((((((((e1.trans e2).trans e3).trans e43).trans e53).trans e6).trans e7).trans (e8.trans e9)).trans e10) (hs10.congr fun d hd => ?_)
      have z0 : (decide (d % 1 ∈ ([] : List Int)) != decide (d ∈ ([] : List Int))) = false := by simp
      dsimp only
      rw [z0, Bool.bne_false]
      by_cases c : d < st
      · rw [if_pos c]
        have : d ∈ ((List.range (st - 1).toNat).map fun (j : Nat) => 1 + (j : Int)).filter (fun d => (decide (valT (tL d es k) = uw))) ↔ (decide (valT (tL d es k) = uw)) = true := by
          rw [List.mem_filter]
          refine ⟨fun z => z.2, fun z => ⟨List.mem_map.mpr ⟨(d - 1).toNat, List.mem_range.mpr (by omega), by omega⟩, z⟩⟩
        rw [Bool.eq_iff_iff, decide_eq_true_eq]
        exact this
      · rw [if_neg c]
        have a0 : 0 ≤ d % modOf es := Int.emod_nonneg _ (by omega)
        have a1 : d % modOf es < modOf es := Int.emod_lt_of_pos _ (by omega)
        have : d % modOf es ∈ ((List.range (modOf es).toNat).filter fun (j : Nat) => (decide (vT (tS (j : Int) es k) = uw))).map (fun (j : Nat) => (j : Int)) ↔ (decide (vT (tS (d % modOf es) es k) = uw)) = true := by
          rw [List.mem_map]
          constructor
          · rintro ⟨j, hj, e⟩
            have := (List.mem_filter.mp hj).2
            rw [e] at this
            exact this
          · intro z
            exact ⟨(d % modOf es).toNat, List.mem_filter.mpr ⟨List.mem_range.mpr (by omega), by rw [Int.toNat_of_nonneg a0]; exact z⟩, Int.toNat_of_nonneg a0⟩
        rw [Bool.eq_iff_iff, decide_eq_true_eq]
        exact this.trans (by rw [show_compat hnI (rows_tell ho1 hrow (by omega) hke)])
end
end Rln
end
section
set_option Elab.async false
set_option linter.all false
set_option maxRecDepth 100000
set_option maxHeartbeats 4000000
namespace Rln
open PySem PySem.Spec PyProof.Rows L2
def IxD (H : Hp) (us : List V) (ds : List (Deed Str)) : Prop := us.length = ds.length ∧ ∀ (i : Nat) x, ds[i]? = some x → ∃ u, us[i]? = some u ∧ DAt H u x
theorem IxD.mono {H H' : Hp} {us ds} (e : Same H H') (h : IxD H us ds) : IxD H' us ds := ⟨h.1, fun i x hx => by
  obtain ⟨u, h1, h2⟩ := h.2 i x hx
  exact ⟨u, h1, h2.mono e⟩⟩
theorem IxD.nil {H : Hp} : IxD H [] [] := ⟨rfl, fun i x hx => by simp at hx⟩
theorem IxD.one {H : Hp} {u : V} {x : Deed Str} (h : DAt H u x) : IxD H [u] [x] := ⟨rfl, fun i y hy => by
  cases i with
  | zero => cases hy; exact ⟨u, rfl, h⟩
  | succ i => simp at hy⟩
theorem IxD.app {H : Hp} {us us' ds ds'} (h : IxD H us ds) (h' : IxD H us' ds') : IxD H (us ++ us') (ds ++ ds') := ⟨by rw [List.length_append, List.length_append, h.1, h'.1], fun i x hx => by
  by_cases c : i < ds.length
  · rw [List.getElem?_append_left c] at hx
    obtain ⟨u, h1, h2⟩ := h.2 i x hx
    exact ⟨u, by rw [List.getElem?_append_left (by rw [h.1]; exact c)]; exact h1, h2⟩
  · rw [List.getElem?_append_right (by omega)] at hx
    obtain ⟨u, h1, h2⟩ := h'.2 _ x hx
    exact ⟨u, by rw [List.getElem?_append_right (by rw [h.1]; omega), h.1]; exact h1, h2⟩⟩
theorem IxD.take {H : Hp} {us ds} (h : IxD H us ds) (k : Nat) : IxD H (us.take k) (ds.take k) := ⟨by rw [List.length_take, List.length_take, h.1], fun i x hx => by
  rw [List.getElem?_take] at hx
  by_cases c : i < k
  · rw [if_pos c] at hx
    obtain ⟨u, h1, h2⟩ := h.2 i x hx
    exact ⟨u, by rw [List.getElem?_take, if_pos c]; exact h1, h2⟩
  · rw [if_neg c] at hx
    cases hx⟩
theorem IxD.drop {H : Hp} {us ds} (h : IxD H us ds) (k : Nat) : IxD H (us.drop k) (ds.drop k) := ⟨by rw [List.length_drop, List.length_drop, h.1], fun i x hx => by
  rw [List.getElem?_drop] at hx
  obtain ⟨u, h1, h2⟩ := h.2 _ x hx
  exact ⟨u, by rw [List.getElem?_drop]; exact h1, h2⟩⟩
theorem DsAt.ix {K : PySem.W.Frag} {H : Hp} {v : V} {ds} (h : DsAt K H v ds) : ∃ a us, v = .ref a ∧ SqT K H a us ∧ IxD H us ds := by
  obtain ⟨a, us, h1, h2, h3, h4⟩ := h
  exact ⟨a, us, h1, h2, h3, h4⟩
theorem IxD.ds {K : PySem.W.Frag} {H : Hp} {a : Addr} {us ds} (h : IxD H us ds) (s : SqT K H a us) : DsAt K H (.ref a) ds := ⟨a, us, rfl, s, h.1, h.2⟩
/-- a Plan -/
def PlanAt (K : PySem.W.Frag) (H : Hp) (v : V) (ds : List (Deed Str)) : Prop := ∃ p dx u, v = .ref p ∧ H p = some (.ins (cPlan K) dx [("kept", u)]) ∧ DsAt K H u ds
theorem PlanAt.mono {K : PySem.W.Frag} {H H' : Hp} {v : V} {ds} (e : Same H H') (h : PlanAt K H v ds) : PlanAt K H' v ds := by
  obtain ⟨p, dx, u, rfl, h1, h2⟩ := h
  exact ⟨p, dx, u, rfl, e _ _ h1, h2.mono e⟩
theorem DAt.sx {x C dx : Addr} {fs : List (Str × V)} {H H' : Hp} {v : V} {y : Deed Str} (h : DAt H v y) (hx : H x = some (.ins C dx fs)) (e : Sx x H H') : DAt H' v y := by
  cases y with
  | pl p =>
    obtain ⟨a, rfl, h⟩ := h
    exact ⟨a, rfl, e _ _ (ne_of h hx (by intro z; cases z)) h⟩
  | whn f w p =>
    obtain ⟨a, b, rfl, h1, h2⟩ := h
    exact ⟨a, b, rfl, e _ _ (ne_of h1 hx (by intro z; cases z)) h1, e _ _ (ne_of h2 hx (by intro z; cases z)) h2⟩
section
variable {P : Program} {w : World} {K : PySem.W.Frag} {mg : Str → Option Value} {base : Heap}
abbrev N_Plan_init : List Str := ["self", "deeds", "index", "deed"]
theorem sc_Plan_init : FnScope N_Plan_init ["self", "deeds"] (defScope s_Plan_init) := ⟨rfl, rfl, rfl, by decide +kernel, rfl, by decide +kernel, by decide +kernel⟩
def spPlanI (K : PySem.W.Frag) : Sp := fun vs H Q _ => ∃ x dx v ds, vs = [.ref x, v] ∧ H x = some (.ins (cPlan K) dx []) ∧ DsAt K H v ds ∧ (∀ y ∈ ds, deedOk y) ∧ ds.length ≤ 12 ∧ ∀ H', Sx x H H' → PlanAt K H' (.ref x) ds → Q .non H'
theorem body_Plan (T : Tx K mg) : BodyOk P w K mg base "Plan.__init__" s_Plan_init N_Plan_init (He.fAd K ("Plan", some "__init__")) 4 (spPlanI K) := fun cdv A outer s H vs Q E hr h => by
  obtain ⟨x, dx, v, ds, rfl, hx, hD, ho, hl, k⟩ := h
  refine ⟨_, (pss_cons (ps_if (pt_not (pt_val (pe_callB call_isi (by rfl) T.n_isinstance (by decide +kernel) (pa_cons (pv 1) (pa_cons (pe_bltn (v := .ty "tuple") (by rfl) T.n_tuple boot_tuple rfl) pa_nil))))) pss_never pss_nil)
      (pss_cons (ps_for PassesOwn.never rfl (pi_enumT (by rfl) T.n_enumerate (pa_cons (pv 1) pa_nil)) (pg_tup rfl (pgs_cons (pg_name (i := 2) sc_Plan_init.nd rfl (Or.inl rfl)) (pgs_cons (pg_name (i := 3) sc_Plan_init.nd rfl (Or.inl rfl)) pgs_nil))) (pss_one (ps_if (PW.pt (pw_or (pt_cmpR op_ge (pv 2) (C8.pe_gc (by rfl) T.i_MOST_DEEDS) (nomark _)) (pw_or1 (pt_not (pt_val (C8.pe_c (cal_is_deed T) hr (by decide) (by rfl) (pa_cons (pv 3) pa_nil))))))) pss_never pss_nil)))
      (pss_one (ps_fld (pv 0) (pv 1) rfl)))), ?_⟩
  obtain ⟨a, us, rfl, hs, hi⟩ := hD.ix
  refine ⟨_, rfl, _, _, _, _, _, rfl, .ty _, ty_sqt hs, k_tt, _, rfl, iteF ?_⟩
  refine ⟨_, rfl, a, us, rfl, hs, for_it (walk_enumT (xs := us)) (fun i σ' H' => Same H H' ∧ ∃ x1 x2, σ' = [some (.ref x), some (.ref a), x1, x2]) ⟨fun _ _ z => z, _, _, rfl⟩ (fun i σ' H' _ h => h.1.sqt hs) ?_ ?_⟩
  · rintro i x1 σ' H4 H5 hi' ⟨e4, y1, y2, rfl⟩ ⟨t, x2, yy, rfl, ht, rfl, hx2, hy2⟩
    cases hx2
    have hlt : i < ds.length := by rw [← hi.1]; exact hi'
    obtain ⟨du, hdu, hdx⟩ := hi.2 i ds[i] (List.getElem?_eq_getElem hlt)
    dsimp only at hy2
    have ey : du = yy := Option.some.inj (hdu.symm.trans hy2)
    subst ey
    have e45 : Same H4 (upd H4 t (.tup [.int (i : Nat), du])) := Same.new ht
    refine ⟨t, _, rfl, SqT.of upd_same, rfl, _, _, rfl, _, _, rfl, rfl, ?_⟩
    refine ⟨_, rfl, _, _, rfl, rfl, _, rfl, iteFd (decide_eq_false (by omega)) ?_⟩
    refine ⟨_, rfl, du, ds[i], rfl, (hdx.mono e4).mono e45, ho _ (List.getElem_mem hlt), fun H6 e6 => ⟨_, rfl, iteF ⟨(e4.trans e45).trans e6, _, _, rfl⟩⟩⟩
  · rintro σ' H4 ⟨e4, y1, y2, rfl⟩
    refine ⟨_, rfl, _, rfl, x, _, dx, _, rfl, e4 _ _ hx, T.c_Plan, T.na_Plan_kept, by show 0 < 1000; decide, ?_⟩
    have e5 : Sx x H4 (upd H4 x (.ins (cPlan K) dx (putF "kept" (.ref a) []))) := fun b u n z => by rw [upd_ne n]; exact z
    refine k _ ((Same.sx e4).trans e5) ⟨x, dx, .ref a, rfl, upd_same, IxD.ds ⟨hi.1, fun i y hy => ?_⟩ (SqT.sx (e4.sqt hs) (e4 _ _ hx) e5)⟩
    obtain ⟨u, h1, h2⟩ := hi.2 i y hy
    exact ⟨u, h1, (h2.mono e4).sx (e4 _ _ hx) e5⟩
theorem mak_Plan0 (T : Tx K mg) : Mak P w K mg base 5 "Plan" (cPlan K) (spPlanI K) [.ref (He.dflAt ("Plan", some "__init__") 0 K)] :=
  makDd 1 0 T.f_Plan_init (List.cons_ne_nil _ _) rfl T.mk_Plan T.g_Plan sc_Plan_init (fun vs H Q E h => by obtain ⟨x, dx, v, ds, rfl, _⟩ := h; rfl)
    (fun _ _ _ _ _ _ _ us its h1 h2 => match us, its, h1, h2 with | [_], [_], _, _ => ⟨_, rfl, rfl⟩) (body_Plan T)
theorem mak_Plan1 (T : Tx K mg) : Mak P w K mg base 5 "Plan" (cPlan K) (spPlanI K) [] :=
  makDd 2 1 T.f_Plan_init (List.cons_ne_nil _ _) rfl T.mk_Plan T.g_Plan sc_Plan_init (fun vs H Q E h => by obtain ⟨x, dx, v, ds, rfl, _⟩ := h; rfl)
    (fun _ _ _ _ _ _ _ us its h1 h2 => match us, its, h1, h2 with | [_, _], [_], _, _ => ⟨_, rfl, rfl⟩) (body_Plan T)
/-- Plan(..) read: what is behind it -/
theorem plan_make {H : Hp} {v : V} {ds : List (Deed Str)} {Q : VK} (hD : DsAt K H v ds) (ho : ∀ y ∈ ds, deedOk y) (hl : ds.length ≤ 12) (k : ∀ H' r, Same H H' → PlanAt K H' r ds → Q r H') :
    ∀ x dx, H x = none → H dx = none → dx ≠ x → spPlanI K (.ref x :: ([v] ++ [])) (upd (upd H dx (.own x)) x (.ins (cPlan K) dx [])) (fun v H2 => v = .non ∧ Q (.ref x) H2) C8.E0 := fun x dx hx hdx ne => by
  have up : Same H (upd (upd H dx (.own x)) x (.ins (cPlan K) dx [])) := fun b u z => by
    rw [upd_ne (ne_of_none z hx), upd_ne (ne_of_none z hdx)]
    exact z
  exact ⟨x, dx, v, ds, rfl, upd_same, hD.mono up, ho, hl, fun H2 s2 hp => ⟨rfl, k H2 _ (Sx.made s2 hx hdx) hp⟩⟩
abbrev N_Plan_len : List Str := ["self"]
theorem sc_Plan_len : FnScope N_Plan_len ["self"] (defScope s_Plan_len) := ⟨rfl, rfl, rfl, by decide +kernel, rfl, by decide +kernel, by decide +kernel⟩
def spPLen (K : PySem.W.Frag) : Sp := fun vs H Q _ => ∃ v ds, vs = [v] ∧ PlanAt K H v ds ∧ Q (.int ds.length) H
theorem met_len (T : Tx K mg) : Met P w K mg base 1 (cPlan K) "__len__" (spPLen K) [] := by
  refine metD T.f_Plan_len T.c_Plan T.m_Plan_len sc_Plan_len (fun vs H Q E h => ?_) (fun _ _ _ _ _ _ us hl => match us, hl with | [_], _ => rfl) (fun cdv A outer s H vs Q E hr h => ?_)
  · obtain ⟨v, _, rfl, _⟩ := h
    rfl
  · obtain ⟨v, ds, rfl, ⟨p, dx, u, rfl, hp, hD⟩, k⟩ := h
    refine ⟨_, (pss_one (ps_ret (pe_callB call_len_seq (by rfl) T.n_len (by decide +kernel) (pa_cons (pe_fld (pv 0) rfl) pa_nil)))), ?_⟩
    obtain ⟨a, us, rfl, hs, hi⟩ := hD.ix
    rw [← hi.1] at k
    exact ⟨_, rfl, p, _, dx, _, _, rfl, hp, T.c_Plan, T.na_Plan_kept, rfl, a, us, rfl, .inr hs, k⟩
abbrev N_Plan_deeds : List Str := ["self"]
theorem sc_Plan_deeds : FnScope N_Plan_deeds ["self"] (defScope s_Plan_deeds) := ⟨rfl, rfl, rfl, by decide +kernel, rfl, by decide +kernel, by decide +kernel⟩
def spPDeeds (K : PySem.W.Frag) : Sp := fun vs H Q _ => ∃ v ds, vs = [v] ∧ PlanAt K H v ds ∧ ∀ u, DsAt K H u ds → Q u H
theorem met_deeds (T : Tx K mg) : Met P w K mg base 1 (cPlan K) "deeds" (spPDeeds K) [] := by
  refine metD T.f_Plan_deeds T.c_Plan T.m_Plan_deeds sc_Plan_deeds (fun vs H Q E h => ?_) (fun _ _ _ _ _ _ us hl => match us, hl with | [_], _ => rfl) (fun cdv A outer s H vs Q E hr h => ?_)
  · obtain ⟨v, _, rfl, _⟩ := h
    rfl
  · obtain ⟨v, ds, rfl, ⟨p, dx, u, rfl, hp, hD⟩, k⟩ := h
    refine ⟨_, (pss_one (ps_ret (pe_fld (pv 0) rfl))), ?_⟩
    exact ⟨_, rfl, p, _, dx, _, _, rfl, hp, T.c_Plan, T.na_Plan_kept, rfl, k u hD⟩
abbrev N_Plan_has : List Str := ["self", "index"]
theorem sc_Plan_has : FnScope N_Plan_has ["self", "index"] (defScope s_Plan_has) := ⟨rfl, rfl, rfl, by decide +kernel, rfl, by decide +kernel, by decide +kernel⟩
def spPHas (K : PySem.W.Frag) : Sp := fun vs H Q _ => ∃ v ds i, vs = [v, .int i] ∧ PlanAt K H v ds ∧ 0 ≤ i ∧ i < ds.length ∧ Q (.bl true) H
theorem met_has (T : Tx K mg) : Met P w K mg base 2 (cPlan K) "has" (spPHas K) [] := by
  refine metD T.f_Plan_has T.c_Plan T.m_Plan_has sc_Plan_has (fun vs H Q E h => ?_) (fun _ _ _ _ _ _ us hl => match us, hl with | [_, _], _ => rfl) (fun cdv A outer s H vs Q E hr h => ?_)
  · obtain ⟨v, _, _, rfl, _⟩ := h
    rfl
  · obtain ⟨v, ds, i, rfl, ⟨p, dx, u, rfl, hp, hD⟩, h0, h1, k⟩ := h
    refine ⟨_, (pss_one (ps_ret (pe_and (C8.pe_c (cal_is_whole T) hr (by decide) (by rfl) (pa_cons (pv 1) pa_nil)) (pe_one (pe_chain op_le op_lt pe_int (pv 1) (pe_callB call_len_seq (by rfl) T.n_len (by decide +kernel) (pa_cons (pe_fld (pv 0) rfl) pa_nil))))))), ?_⟩
    obtain ⟨a, us, rfl, hs, hi⟩ := hD.ix
    have hl := hi.1
    refine ⟨_, rfl, _, rfl, rfl, _, rfl, iteT ⟨_, rfl, _, _, rfl, rfl, _, rfl, ?_⟩⟩
    rw [decide_eq_true h0]
    refine iteT ⟨_, rfl, p, _, dx, _, _, rfl, hp, T.c_Plan, T.na_Plan_kept, rfl, a, us, rfl, .inr hs, _, _, rfl, rfl, ?_⟩
    have : decide (i < (us.length : Int)) = true := decide_eq_true (by omega)
    show Q (.bl (decide (i < (us.length : Int)))) H
    rw [this]
    exact k
abbrev N_Plan_add : List Str := ["self", "other"]
theorem sc_Plan_add : FnScope N_Plan_add ["self", "other"] (defScope s_Plan_add) := ⟨rfl, rfl, rfl, by decide +kernel, rfl, by decide +kernel, by decide +kernel⟩
def spPAdd (K : PySem.W.Frag) : Sp := fun vs H Q _ => ∃ u v ds es, vs = [u, v] ∧ PlanAt K H u ds ∧ PlanAt K H v es ∧ (∀ y ∈ ds ++ es, deedOk y) ∧ (ds ++ es).length ≤ 12 ∧ ∀ H' r, Same H H' → PlanAt K H' r (ds ++ es) → Q r H'
theorem met_add (T : Tx K mg) : Met P w K mg base 7 (cPlan K) "__add__" (spPAdd K) [] := by
  refine metD T.f_Plan_add T.c_Plan T.m_Plan_add sc_Plan_add (fun vs H Q E h => ?_) (fun _ _ _ _ _ _ us hl => match us, hl with | [_, _], _ => rfl) (fun cdv A outer s H vs Q E hr h => ?_)
  · obtain ⟨v, _, _, _, rfl, _⟩ := h
    rfl
  · obtain ⟨u, v, ds, es, rfl, ⟨p, dx, pu, rfl, hp, hD⟩, ⟨q, dy, qu, rfl, hq, hE⟩, ho, hl, k⟩ := h
    refine ⟨_, (pss_one (ps_ret (C8.pe_mk (mak_Plan1 T) hr (by decide) (by rfl) (pa_cons (pe_op op_catA (pe_fld (pv 0) rfl) (pe_fld (pv 1) rfl)) pa_nil)))), ?_⟩
    obtain ⟨a, us, rfl, hs, hi⟩ := hD.ix
    obtain ⟨b, vs, rfl, hs', hi'⟩ := hE.ix
    rw [List.length_append] at hl
    refine ⟨_, rfl, p, _, dx, _, _, rfl, hp, T.c_Plan, T.na_Plan_kept, rfl, _, rfl, q, _, dy, _, _, rfl, hq, T.c_Plan, T.na_Plan_kept, rfl, a, b, us, vs, rfl, rfl, hs, hs', ?_, fun z => ?_, fun _ z => ?_, fun _ _ r hr' => ?_⟩
    · have := hi.1
      have := hi'.1
      rw [sizeLine_eq]
      omega
    · have : ds = [] := List.length_eq_zero_iff.mp (by rw [← hi.1, z]; rfl)
      subst this
      exact plan_make hE (by simpa using ho) (by simpa using hl) k
    · have : es = [] := List.length_eq_zero_iff.mp (by rw [← hi'.1, z]; rfl)
      subst this
      rw [List.append_nil] at ho k
      exact plan_make hD ho (by simpa using hl) k
    · have e : Same H (upd H r (.tup (us ++ vs))) := Same.new hr'
      exact plan_make (((hi.mono e).app (hi'.mono e)).ds (SqT.of upd_same)) ho (by rw [List.length_append]; exact hl) fun H' r e' h => k H' r (e.trans e') h
end
end Rln
end
section
set_option Elab.async false
set_option linter.all false
set_option maxRecDepth 100000
set_option maxHeartbeats 4000000
namespace Rln
open PySem PySem.Spec PyProof.Rows L2
def apartP (t : Option Int) (t' : Option Int) (d : Int) : Bool := match t, t' with
  | some p, some q => decide ((p - q) % (2 * d) = d)
  | _, _ => false
def apart (ds : List (Deed Str)) (a b : Str) (d : Int) : Bool := apartP (getK (workL d ds).hung a) (getK (workL d ds).hung b) d
def apartS (t : Option (Int × Int)) (t' : Option (Int × Int)) : Bool := match t, t' with
  | some p, some q => decide (moved p 1 0 = q)
  | _, _ => false
theorem apart_sim {ds : List (Deed Str)} (ho : ∀ x ∈ ds, deedOk x) (a b : Str) {d : Int} (hd : boundOf ds ≤ d) : apartS (getK (workS (d % modOf ds) ds).hung a) (getK (workS (d % modOf ds) ds).hung b) = apart ds a b d := by
  have R := (sim ho hd).2
  have b1 := bound_pos ds
  unfold apart
  rw [R.get a, R.get b]
  cases e1 : getK (workS (d % modOf ds) ds).hung a with
  | none => rfl
  | some p =>
    cases e2 : getK (workS (d % modOf ds) ds).hung b with
    | none => rfl
    | some q =>
      have gp := (R.ok.gd _ (getK_mem e1)).2
      have gq := (R.ok.gd _ (getK_mem e2)).2
      have p1 : p.1 = 0 ∨ p.1 = 1 := gp.1
      have p2 : -(reachOf ds).1 ≤ p.2 ∧ p.2 ≤ (reachOf ds).1 := gp.2
      have q1 : q.1 = 0 ∨ q.1 = 1 := gq.1
      have q2 : -(reachOf ds).1 ≤ q.2 ∧ q.2 ≤ (reachOf ds).1 := gq.2
      have r0 := R.ok.b0
      unfold boundOf at hd
      show decide (moved p 1 0 = q) = decide ((absP d p - absP d q) % (2 * d) = d)
      rw [Bool.eq_iff_iff, decide_eq_true_eq, decide_eq_true_eq]
      have hm := absP_moved d p 1 0
      have hq := absP_in (by omega : 0 < d) q
      have hp := absP_in (by omega : 0 < d) p
      constructor
      · intro e
        rw [e, Int.one_mul, Int.add_zero] at hm
        have h1 := Int.mul_ediv_add_emod (absP d p + d) (2 * d)
        have : absP d p - absP d q = d + 2 * d * ((absP d p + d) / (2 * d) - 1) := by
          rw [Int.mul_sub]
          omega
        rw [this, Int.add_mul_emod_self_left]
        exact Int.emod_eq_of_lt (by omega) (by omega)
      · intro e
        refine absP_inj (by omega : 0 < d) ?_ q1 ?_ ?_ ?_
        · show (p.1 + 1) % 2 = 0 ∨ (p.1 + 1) % 2 = 1
          omega
        · show -d < p.2 + 0 - q.2
          omega
        · show p.2 + 0 - q.2 < d
          omega
        · rw [hm, Int.one_mul, Int.add_zero]
          have h1 := Int.mul_ediv_add_emod (absP d p - absP d q) (2 * d)
          rw [e] at h1
          have : absP d p + d = absP d q + 2 * d * ((absP d p - absP d q) / (2 * d) + 1) := by
            rw [Int.mul_add]
            omega
          rw [this, Int.add_mul_emod_self_left]
          exact Int.emod_eq_of_lt hq.1 hq.2
section
variable {P : Program} {w : World} {K : PySem.W.Frag} {mg : Str → Option Value} {base : Heap}
abbrev N_check_index : List Str := ["plan", "index"]
theorem sc_check_index : FnScope N_check_index ["plan", "index"] (defScope s_check_index) := ⟨rfl, rfl, rfl, by decide +kernel, rfl, by decide +kernel, by decide +kernel⟩
def spCheck (K : PySem.W.Frag) : Sp := fun vs H Q _ => ∃ v ds i, vs = [v, .int i] ∧ PlanAt K H v ds ∧ 0 ≤ i ∧ i < ds.length ∧ ds.length ≤ 20 ∧ Q .non H
theorem cal_check_index (T : Tx K mg) : Cal P w K mg base 3 "check_index" (spCheck K) [] := by
  refine calD T.f_check_index T.g_check_index sc_check_index (fun vs H Q E h => ?_) (fun _ _ _ _ _ _ us hl => match us, hl with | [_, _], _ => rfl) (fun cdv A outer s H vs Q E hr h => ?_)
  · obtain ⟨v, _, _, rfl, _⟩ := h
    rfl
  · obtain ⟨v, ds, i, rfl, hP, h0, h1, hl, k⟩ := h
    refine ⟨_, (pss_one (ps_if (PW.pt (pw_or (pt_not (pt_val (C8.pe_c (cal_is_whole T) hr (by decide) (by rfl) (pa_cons (pv 1) pa_nil)))) (pw_or1 (pt_not (pt_chain op_le op_lt pe_int (pv 1) (pe_callB (call_len_own (met_len T) hr) (by rfl) T.n_len (by decide +kernel) (pa_cons (pv 0) pa_nil))))))) pss_never pss_nil)), ?_⟩
    obtain ⟨p, dx, u, rfl, hp, hD⟩ := id hP
    refine ⟨_, rfl, _, rfl, rfl, _, rfl, iteF ⟨_, rfl, _, _, rfl, rfl, _, rfl, ?_⟩⟩
    rw [decide_eq_true h0]
    refine iteT ⟨_, rfl, ⟨p, dx, _, rfl, hp⟩, .ref p, ds, rfl, hP, _, rfl, by omega, by omega, _, _, rfl, rfl, _, rfl, ?_⟩
    rw [decide_eq_true h1]
    exact iteF k
/-- what the plan's sets ask of it -/
structure POk (ds : List (Deed Str)) : Prop where
  ok : ∀ x ∈ ds, deedOk x
  len : ds.length ≤ 12
  bd : boundOf ds ≤ 61
abbrev N_failing : List Str := ["plan", "index"]
theorem sc_failing : FnScope N_failing ["plan", "index"] (defScope s_failing) := ⟨rfl, rfl, rfl, by decide +kernel, rfl, by decide +kernel, by decide +kernel⟩
def spFailing (K : PySem.W.Frag) : Sp := fun vs H Q _ => ∃ (v : V) (ds : List (Deed Str)) (k : Nat), vs = [v, .int k] ∧ PlanAt K H v ds ∧ POk ds ∧ k < ds.length ∧ ∀ H' r, Same H H' → SetAt K H' r (failAt ds k) → Q r H'
theorem cal_failing (T : Tx K mg) : Cal P w K mg base 11 "failing" (spFailing K) [] := by
  refine calD T.f_failing T.g_failing sc_failing (fun vs H Q E h => ?_) (fun _ _ _ _ _ _ us hl => match us, hl with | [_, _], _ => rfl) (fun cdv A outer s H vs Q E hr h => ?_)
  · obtain ⟨v, _, _, rfl, _⟩ := h
    rfl
  · obtain ⟨v, ds, k, rfl, hP, ok, hk, kk⟩ := h
    refine ⟨_, (pss_cons (ps_expr (C8.pe_c (cal_check_index T) hr (by decide) (by rfl) (pa_cons (pv 0) (pa_cons (pv 1) pa_nil))))
      (pss_one (ps_ret (C8.pe_c (cal_failing_of T) hr (by decide) (by rfl) (pa_cons (C8.pe_mt0 (met_deeds T) hr (by decide) (pv 0)) (pa_cons (pv 1) pa_nil)))))), ?_⟩
    have hl := ok.len
    obtain ⟨p, dx, u, rfl, hp, hD⟩ := id hP
    exact ⟨_, rfl, _, rfl, .ref p, ds, k, rfl, hP, by omega, by omega, by omega, _, rfl, p, dx, _, rfl, hp, rfl, .ref p, ds, rfl, hP, fun u' hD' => ⟨_, rfl, u', ds, k, rfl, hD', ok.ok, by omega, ok.bd, hk, kk⟩⟩
abbrev N_carrying : List Str := ["plan"]
theorem sc_carrying : FnScope N_carrying ["plan"] (defScope s_carrying) := ⟨rfl, rfl, rfl, by decide +kernel, rfl, by decide +kernel, by decide +kernel⟩
def spCarrying (K : PySem.W.Frag) : Sp := fun vs H Q _ => ∃ (v : V) (ds : List (Deed Str)), vs = [v] ∧ PlanAt K H v ds ∧ POk ds ∧ ∀ H' r, Same H H' → SetAt K H' r (carries ds) → Q r H'
theorem cal_carrying (T : Tx K mg) : Cal P w K mg base 11 "carrying" (spCarrying K) [] := by
  refine calD T.f_carrying T.g_carrying sc_carrying (fun vs H Q E h => ?_) (fun _ _ _ _ _ _ us hl => match us, hl with | [_], _ => rfl) (fun cdv A outer s H vs Q E hr h => ?_)
  · obtain ⟨v, _, rfl, _⟩ := h
    rfl
  · obtain ⟨v, ds, rfl, hP, ok, kk⟩ := h
    refine ⟨_, (pss_one (ps_ret (C8.pe_c (cal_carrying_of T) hr (by decide) (by rfl) (pa_cons (C8.pe_mt0 (met_deeds T) hr (by decide) (pv 0)) pa_nil)))), ?_⟩
    have hl := ok.len
    obtain ⟨p, dx, u, rfl, hp, hD⟩ := id hP
    exact ⟨_, rfl, p, dx, _, rfl, hp, rfl, .ref p, ds, rfl, hP, fun u' hD' => ⟨u', ds, rfl, hD', ok.ok, by omega, ok.bd, kk⟩⟩
abbrev N_showing : List Str := ["plan", "index", "what"]
theorem sc_showing : FnScope N_showing ["plan", "index", "what"] (defScope s_showing) := ⟨rfl, rfl, rfl, by decide +kernel, rfl, by decide +kernel, by decide +kernel⟩
def spShowing (K : PySem.W.Frag) : Sp := fun vs H Q _ => ∃ (v : V) (ds : List (Deed Str)) (k : Nat) (uw : V), vs = [v, .int k, uw] ∧ PlanAt K H v ds ∧ POk ds ∧ k < ds.length ∧ flat4 uw = true ∧ isI uw = false ∧ ∀ H' r, Same H H' → SetAt K H' r (showAt ds k uw) → Q r H'
theorem cal_showing (T : Tx K mg) : Cal P w K mg base 11 "showing" (spShowing K) [] := by
  refine calD T.f_showing T.g_showing sc_showing (fun vs H Q E h => ?_) (fun _ _ _ _ _ _ us hl => match us, hl with | [_, _, _], _ => rfl) (fun cdv A outer s H vs Q E hr h => ?_)
  · obtain ⟨v, _, _, _, rfl, _⟩ := h
    rfl
  · obtain ⟨v, ds, k, uw, rfl, hP, ok, hk, hf, hi, kk⟩ := h
    refine ⟨_, (pss_cons (ps_expr (C8.pe_c (cal_check_index T) hr (by decide) (by rfl) (pa_cons (pv 0) (pa_cons (pv 1) pa_nil))))
      (pss_one (ps_ret (C8.pe_c (cal_showing_of T) hr (by decide) (by rfl) (pa_cons (C8.pe_mt0 (met_deeds T) hr (by decide) (pv 0)) (pa_cons (pv 1) (pa_cons (pv 2) pa_nil))))))), ?_⟩
    have hl := ok.len
    obtain ⟨p, dx, u, rfl, hp, hD⟩ := id hP
    exact ⟨_, rfl, _, rfl, .ref p, ds, k, rfl, hP, by omega, by omega, by omega, _, rfl, p, dx, _, rfl, hp, rfl, .ref p, ds, rfl, hP, fun u' hD' => ⟨_, rfl, _, rfl, u', ds, k, uw, rfl, hD', ok.ok, by omega, ok.bd, hk, hf, hi, kk⟩⟩
abbrev N_resting : List Str := ["plan", "window", "what", "deeds"]
theorem sc_resting : FnScope N_resting ["plan", "window", "what"] (defScope s_resting) := ⟨rfl, rfl, rfl, by decide +kernel, rfl, by decide +kernel, by decide +kernel⟩
def spResting (K : PySem.W.Frag) : Sp := fun vs H Q _ => ∃ (v : V) (ds : List (Deed Str)) (far : Bool) (wh : Option Str), vs = [v, .str (wS far), whatV wh] ∧ PlanAt K H v ds ∧ POk ds ∧ (∀ t, wh = some t → goodT t) ∧ ∀ H' r, Same H H' → SetAt K H' r (showAt (ds ++ [.pl (.look far)]) ds.length (whatV wh)) → Q r H'
theorem cal_resting (T : Tx K mg) : Cal P w K mg base 11 "resting" (spResting K) [] := by
  refine calD T.f_resting T.g_resting sc_resting (fun vs H Q E h => ?_) (fun _ _ _ _ _ _ us hl => match us, hl with | [_, _, _], _ => rfl) (fun cdv A outer s H vs Q E hr h => ?_)
  · obtain ⟨v, _, _, _, rfl, _⟩ := h
    rfl
  · obtain ⟨v, ds, far, wh, rfl, hP, ok, hw, kk⟩ := h
    refine ⟨_, (pss_cons (ps_if (pt_not (pt_val (C8.pe_c (cal_is_window T) hr (by decide) (by rfl) (pa_cons (pv 1) pa_nil)))) pss_never pss_nil)
      (pss_cons (ps_if (PW.pt (pw_and (pt_cmpR op_notN (pv 2) pe_non (nomark _)) (pw_and1 (pt_not (pt_val (C8.pe_c (cal_is_thing T) hr (by decide) (by rfl) (pa_cons (pv 2) pa_nil))))))) pss_never pss_nil)
      (pss_cons (ps_set (i := 3) sc_resting.nd rfl (Or.inl rfl) (pe_tup (StX.pa_star (C8.pe_mt0 (met_deeds T) hr (by decide) (pv 0)) (pa_cons (pe_tup (pa_cons pe_str (pa_cons (pv 1) pa_nil))) pa_nil))))
      (pss_one (ps_ret (C8.pe_c (cal_showing_of T) hr (by decide) (by rfl) (pa_cons (pv 3) (pa_cons (pe_callB (call_len_own (met_len T) (hr.mono (by decide))) (by rfl) T.n_len (by decide +kernel) (pa_cons (pv 0) pa_nil)) (pa_cons (pv 2) pa_nil))))))))), ?_⟩
    have hl := ok.len
    have rest : ∀ H1, Same H H1 → (∀ H' r, Same H1 H' → SetAt K H' r (showAt (ds ++ [.pl (.look far)]) ds.length (whatV wh)) → Q r H') := fun H1 e1 H' r e => kk H' r (e1.trans e)
    refine ⟨_, rfl, far, rfl, _, rfl, iteF ?_⟩
    obtain ⟨p, dx, u, rfl, hp, hD⟩ := id hP
    have look : ∀ H1, Same H H1 → ∀ (a : Addr) (us : List V), SqT K H1 a us → IxD H1 us ds → ∀ q r, H1 q = none → (upd H1 q (.tup [.str "look", .str (wS far)])) r = none →
        Same H1 (upd (upd H1 q (.tup [.str "look", .str (wS far)])) r (.tup (us ++ [.ref q]))) ∧ DsAt K (upd (upd H1 q (.tup [.str "look", .str (wS far)])) r (.tup (us ++ [.ref q]))) (.ref r) (ds ++ [.pl (.look far)]) := fun H1 e1 a us hs hi q r hq hr => by
      have e2 : Same H1 (upd H1 q (.tup [.str "look", .str (wS far)])) := Same.new hq
      have e3 : Same (upd H1 q (.tup [.str "look", .str (wS far)])) (upd (upd H1 q (.tup [.str "look", .str (wS far)])) r (.tup (us ++ [.ref q]))) := Same.new hr
      exact ⟨e2.trans e3, IxD.ds ((hi.mono (e2.trans e3)).app (IxD.one (x := .pl (.look far)) ⟨q, rfl, e3 _ _ upd_same⟩)) (SqT.of upd_same)⟩
    have bd' : boundOf (ds ++ [.pl (.look far)]) ≤ 61 := by
      have : boundOf (ds ++ [.pl (.look far)]) = boundOf ds := by
        unfold boundOf reachOf
        rw [List.foldl_append]
        rfl
      rw [this]
      exact ok.bd
    have ok' : ∀ x ∈ ds ++ [.pl (.look far)], deedOk x := fun x hx => by
      rcases List.mem_append.mp hx with h | h
      · exact ok.ok x h
      · have : x = .pl (.look far) := by simpa using h
        subst this
        trivial
    have hfw : flat4 (whatV wh) = true := by cases wh <;> rfl
    have hiw : isI (whatV wh) = false := by cases wh <;> rfl
    cases wh with
    | none =>
      refine ⟨_, rfl, rfl, _, rfl, iteF (iteF ?_)⟩
      have e1 : Same H H := fun _ _ z => z
      refine ⟨_, rfl, p, dx, _, rfl, e1 _ _ hp, rfl, .ref p, ds, rfl, hP.mono e1, fun u' hD' => ?_⟩
      obtain ⟨a, us, rfl, hs, hi⟩ := hD'.ix
      have hi1 := hi.1
      refine ⟨a, us, rfl, .inl hs, _, rfl, by show 2 ≤ sizeLine; decide, fun q hq => ⟨?_, fun r hr' => ?_⟩⟩
      · show (us ++ [V.ref q]).length ≤ sizeLine
        rw [List.length_append, sizeLine_eq]
        show us.length + 1 ≤ _
        omega
      · obtain ⟨e3, hD3⟩ := look _ e1 a us hs hi q r hq hr'
        have e13 := e1.trans e3
        refine ⟨_, rfl, _, rfl, ⟨p, dx, _, rfl, e13 _ _ hp⟩, .ref p, ds, rfl, hP.mono e13, _, rfl, by omega, by omega, _, rfl, .ref r, ds ++ [Deed.pl (PD.look far)], ds.length, _, rfl, hD3, ok', ?_, bd', ?_, hfw, hiw, rest _ e13⟩
        · rw [List.length_append]
          show ds.length + 1 ≤ 19
          omega
        · rw [List.length_append]
          show ds.length < ds.length + 1
          omega
    | some tt =>
      refine ⟨_, rfl, rfl, _, rfl, iteT ⟨_, rfl, tt, rfl, hw tt rfl, fun H1 e1 => ⟨_, rfl, iteF ?_⟩⟩⟩
      have e1 : Same H H1 := e1
      refine ⟨_, rfl, p, dx, _, rfl, e1 _ _ hp, rfl, .ref p, ds, rfl, hP.mono e1, fun u' hD' => ?_⟩
      obtain ⟨a, us, rfl, hs, hi⟩ := hD'.ix
      have hi1 := hi.1
      refine ⟨a, us, rfl, .inl hs, _, rfl, by show 2 ≤ sizeLine; decide, fun q hq => ⟨?_, fun r hr' => ?_⟩⟩
      · show (us ++ [V.ref q]).length ≤ sizeLine
        rw [List.length_append, sizeLine_eq]
        show us.length + 1 ≤ _
        omega
      · obtain ⟨e3, hD3⟩ := look _ e1 a us hs hi q r hq hr'
        have e13 := e1.trans e3
        refine ⟨_, rfl, _, rfl, ⟨p, dx, _, rfl, e13 _ _ hp⟩, .ref p, ds, rfl, hP.mono e13, _, rfl, by omega, by omega, _, rfl, .ref r, ds ++ [Deed.pl (PD.look far)], ds.length, _, rfl, hD3, ok', ?_, bd', ?_, hfw, hiw, rest _ e13⟩
        · rw [List.length_append]
          show ds.length + 1 ≤ 19
          omega
        · rw [List.length_append]
          show ds.length < ds.length + 1
          omega
end
end Rln
end
section
set_option Elab.async false
set_option linter.all false
set_option maxRecDepth 100000
set_option maxHeartbeats 4000000
namespace Rln
open PySem PySem.Spec PyProof.Rows L2
section
variable {P : Program} {w : World} {K : PySem.W.Frag} {mg : Str → Option Value} {base : Heap}
abbrev N_is_apart : List Str := ["deeds", "distance", "thing", "other_thing", "hung"]
theorem sc_is_apart : FnScope N_is_apart ["deeds", "distance", "thing", "other_thing"] (defScope s_is_apart) := ⟨rfl, rfl, rfl, by decide +kernel, rfl, by decide +kernel, by decide +kernel⟩
def spApart (K : PySem.W.Frag) : Sp := fun vs H Q _ => ∃ (v : V) (ds : List (Deed Str)) (d : Int) (a b : Str), vs = [v, .int d, .str a, .str b] ∧ DsAt K H v ds ∧ (∀ x ∈ ds, deedOk x) ∧ ds.length ≤ 20 ∧ 1 ≤ d ∧ d < 2 ^ 16 ∧ ∀ H', Same H H' → Q (.bl (apart ds a b d)) H'
theorem cal_is_apart (T : Tx K mg) : Cal P w K mg base 7 "is_apart" (spApart K) [] := by
  refine calD T.f_is_apart T.g_is_apart sc_is_apart (fun vs H Q E h => ?_) (fun _ _ _ _ _ _ us hl => match us, hl with | [_, _, _, _], _ => rfl) (fun cdv A outer s H vs Q E hr h => ?_)
  · obtain ⟨v, _, _, _, _, rfl, _⟩ := h
    rfl
  · obtain ⟨v, ds, d, a, b, rfl, hD, ho, hl, d1, d2, k⟩ := h
    have hu := hu_of hr
    refine ⟨_, (pss_cons (ps_set (i := 4) sc_is_apart.nd rfl (Or.inl rfl) (pe_fld (C8.pe_c (cal_work_of T) hr (by decide) (by rfl) (pa_cons (pv 0) (pa_cons (pv 1) pa_nil))) rfl))
      (pss_cons (ps_if (PW.pt (pw_or (pt_cmp (pc_dnotin hu (pv 2) (pv 4))) (pw_or1 (pt_cmp (pc_dnotin hu (pv 3) (pv 4)))))) (pss_one (ps_ret pe_bl)) pss_nil)
      (pss_one (ps_ret (pe_cmpR op_eq (pe_op op_mod (pe_op op_sub (pe_dget hu (pv 4) (pv 2) (fun _ _ => rfl)) (pe_dget hu (pv 4) (pv 3) (fun _ _ => rfl))) (pe_op op_mul pe_int (pv 1))) (pv 1) (nomark _)))))), ?_⟩
    refine ⟨_, rfl, _, rfl, v, ds, d, rfl, hD, ho, hl, d1, d2, fun H1 p h e1 L => ?_⟩
    obtain ⟨dx, n, hp, hh⟩ := id L
    have k' := k H1 e1
    unfold apart at k'
    refine ⟨p, _, dx, _, _, rfl, hp, T.c_LineWork, T.na_LineWork_hung, rfl, ?_⟩
    refine ⟨_, rfl, _, rfl, h, _, rfl, DGet.k (k := Sum.inr a) hh, _, rfl, ?_⟩
    rw [valV_hung]
    cases ea : getK (workL d ds).hung a with
    | none =>
      rw [ea] at k'
      exact iteT (iteT k')
    | some x =>
      refine iteF ⟨_, rfl, _, rfl, h, _, rfl, DGet.k (k := Sum.inr b) hh, _, rfl, ?_⟩
      rw [valV_hung]
      cases eb : getK (workL d ds).hung b with
      | none =>
        rw [ea, eb] at k'
        exact iteT k'
      | some y =>
        rw [ea, eb] at k'
        have g1 := DGet.k (k := Sum.inr a) hh
        rw [valV_hung, ea] at g1
        have g2 := DGet.k (k := Sum.inr b) hh
        rw [valV_hung, eb] at g2
        refine iteF ⟨_, rfl, _, rfl, h, _, rfl, g1, _, rfl, _, rfl, h, _, rfl, g2, _, _, rfl, rfl, _, rfl, _, _, rfl, rfl, .inl ⟨by decide, by decide⟩, _, _, rfl, rfl, by show (0 : Int) < 2 * d; omega, _, rfl, rfl, ?_⟩
        have e : decide (V.int ((x - y) % (2 * d)) = V.int d) = decide ((x - y) % (2 * d) = d) := by
          rw [Bool.eq_iff_iff]
          simp
        show Q (.bl (decide (V.int ((x - y) % (2 * d)) = V.int d))) H1
        rw [e]
        exact k'
abbrev N_meeting : List Str := ["plan", "thing", "other_thing", "deeds", "modulus", "start", "classes", "remainder", "hung", "early", "distance"]
theorem sc_meeting : FnScope N_meeting ["plan", "thing", "other_thing"] (defScope s_meeting) := ⟨rfl, rfl, rfl, by decide +kernel, rfl, by decide +kernel, by decide +kernel⟩
def spMeeting (K : PySem.W.Frag) : Sp := fun vs H Q _ => ∃ (v : V) (ds : List (Deed Str)) (a b : Str), vs = [v, .str a, .str b] ∧ PlanAt K H v ds ∧ POk ds ∧ goodT a ∧ goodT b ∧ ∀ H' r, Same H H' → SetAt K H' r (apart ds a b) → Q r H'
theorem cal_meeting (T : Tx K mg) : Cal P w K mg base 10 "meeting" (spMeeting K) [] := by
  refine calD T.f_meeting T.g_meeting sc_meeting (fun vs H Q E h => ?_) (fun _ _ _ _ _ _ us hl => match us, hl with | [_, _, _], _ => rfl) (fun cdv A outer s H vs Q E hr h => ?_)
  · obtain ⟨v, _, _, _, rfl, _⟩ := h
    rfl
  · obtain ⟨v, ds, a, b, rfl, hP, ok, ha, hb, kk⟩ := h
    have hu := hu_of hr
    refine ⟨_, (pss_cons (ps_if (PW.pt (pw_or (pt_not (pt_val (C8.pe_c (cal_is_thing T) hr (by decide) (by rfl) (pa_cons (pv 1) pa_nil)))) (pw_or1 (pt_not (pt_val (C8.pe_c (cal_is_thing T) hr (by decide) (by rfl) (pa_cons (pv 2) pa_nil))))))) pss_never pss_nil)
      (pss_cons (ps_set (i := 3) sc_meeting.nd rfl (Or.inr rfl) (C8.pe_mt0 (met_deeds T) hr (by decide) (pv 0)))
      (pss_cons (ps_par (i := 4) (j := 5) (by rfl) sc_meeting.nd rfl rfl (by decide) rfl rfl (pa_cons (C8.pe_c (cal_modulus_of T) hr (by decide) (by rfl) (pa_cons (pv 3) pa_nil)) (pa_cons (C8.pe_c (cal_bound_of T) hr (by decide) (by rfl) (pa_cons (pv 3) pa_nil)) pa_nil)) (by rfl))
      (pss_cons (ps_set (i := 6) sc_meeting.nd rfl (Or.inl rfl) (pe_lst pa_nil))
      (pss_cons (ps_for PassesOwn.never rfl (pi_range1 (by rfl) T.n_range (pa_cons (pv 4) pa_nil)) (pg_name (i := 7) sc_meeting.nd rfl (Or.inl rfl)) (pss_cons (ps_set (i := 8) sc_meeting.nd rfl (Or.inl rfl) (pe_fld (pe_ix ix_tup (C8.pe_c (cal_story_of T) hr (by decide) (by rfl) (pa_cons (pv 3) (pa_cons (pv 7) pa_nil))) pe_int (fun _ _ => rfl)) rfl))
      (pss_one (ps_if (PW.pt (pw_and (pt_cmp (pc_din hu (pv 1) (pv 8))) (pw_and (pt_cmp (pc_din hu (pv 2) (pv 8))) (pw_and1 (pt_cmpR (op_eqD hr.units) (C8.pe_c (cal_moved T) hr (by decide) (by rfl) (pa_cons (pe_dget hu (pv 8) (pv 1) (fun _ _ => rfl)) (pa_cons pe_int (pa_cons pe_int pa_nil)))) (pe_dget hu (pv 8) (pv 2) (fun _ _ => rfl)) (nomark _)))))) (pss_one (ps_expr (pe_bm PySem.F.plainAttrs_list PySem.F.slot_list_append PySem.F.type_list_append mt_append (pv 6) (pa_cons (pv 7) pa_nil)))) pss_nil))))
      (pss_cons (ps_setLc (i := 9) (own := [("distance", 10)]) rfl sc_meeting.nd rfl rfl (sw_true rfl rfl rfl (by decide +kernel)) (pi_range2 (by rfl) T.n_range (pa_cons pe_int (pa_cons (pv 5) pa_nil))) (blkOk_by (N := N_meeting) (sc := defScope s_meeting) (own := [("distance", 10)]) (by decide +kernel)) (fun _ _ _ _ _ => (pg_name (i := 10) sc_meeting.nd rfl (Or.inl rfl))) (fun _ _ _ _ _ => pts_one (pt_val (C8.pe_c (cal_is_apart T) hr (by decide) (by rfl) (pa_cons (pv 3) (pa_cons (pv 10) (pa_cons (pv 1) (pa_cons (pv 2) pa_nil))))))) (fun _ _ _ _ _ => (pv 10)))
      (pss_one (ps_ret (C8.pe_c (cal_set_of T) hr (by decide) (by rfl) (pa_cons (pv 4) (pa_cons (pv 6) (pa_cons (pv 5) (pa_cons (pv 9) pa_nil))))))))))))), ?_⟩
    have hl := ok.len
    have hm := modOf_D60 ok.ok
    have mb := D60_ne hm
    have b1 := bound_pos ds
    have b2 := ok.bd
    refine ⟨_, rfl, a, rfl, ha, fun H1 e1 => ⟨_, rfl, iteF ⟨_, rfl, b, rfl, hb, fun H2 e2 => ⟨_, rfl, iteF ?_⟩⟩⟩⟩
    have e1 : Same H H1 := e1
    have e2 : Same H1 H2 := e2
    have e12 := e1.trans e2
    obtain ⟨p, dx, u, rfl, hp, hD⟩ := id hP
    refine ⟨_, rfl, p, dx, _, rfl, e12 _ _ hp, rfl, .ref p, ds, rfl, hP.mono e12, fun u' hD' => ?_⟩
    refine ⟨_, rfl, u', ds, rfl, hD', ok.ok, by omega, fun H3 e3 => ?_⟩
    have e3 : Same H2 H3 := e3
    refine ⟨_, rfl, u', ds, rfl, hD'.mono e3, ok.ok, by omega, fun H4 e4 => ?_⟩
    have e4 : Same H3 H4 := e4
    have e24 := e3.trans e4
    refine ⟨_, _, rfl, by decide, fun C hC => ?_⟩
    have e40 : Same H4 (upd H4 C (.lst [])) := Same.new hC
    have hC0 : upd H4 C (.lst []) C = some (.lst []) := upd_same
    generalize upd H4 C (.lst []) = H5 at e40 hC0
    have back : ∀ H', Sx C H5 H' → Same H4 H' := fun H' e z ez => fun q => e z ez (ne_of_none q hC) (e40 z ez q)
    have hD4 := hD'.mono e24
    refine ⟨_, rfl, _, rfl, by omega, by omega, for_it walk_range (fun i σ' H' => Sx C H5 H' ∧ (∃ x1 x2 x3, σ' = [some (.ref p), some (.str a), some (.str b), some u', some (.int (modOf ds)), some (.int (boundOf ds)), some (.ref C), x1, x2, x3, none]) ∧ H' C = some (.lst ((((List.range i).filter fun (j : Nat) => apartS (getK (workS (j : Int) ds).hung a) (getK (workS (j : Int) ds).hung b)).map fun (j : Nat) => (j : Int)).map V.int))) ⟨fun _ _ _ z => z, ⟨_, _, _, rfl⟩, hC0⟩ (fun _ _ _ _ _ => trivial) ?_ ?_⟩
    · rintro i x1 σ' H6 H7 hi ⟨e6, ⟨y1, y2, y3, rfl⟩, hl6⟩ ⟨eH, rfl⟩
      have eH2 : H6 = H7 := eH.symm
      subst eH2
      have hi' : (i : Int) < modOf ds := by omega
      have ei : (0 : Int) + (i : Int) = i := by omega
      refine ⟨_, rfl, _, rfl, u', ds, _, rfl, hD4.mono (back H6 e6), ok.ok, by omega, fun H8 t sp D2 h us e8 ht hD2 ht8 L8 hD8 R8 => ?_⟩
      have e8 : Same H6 H8 := e8
      rw [ei] at L8
      obtain ⟨⟨dx8, a8, hp8, ha8⟩, kvs, hh, R⟩ := id L8
      have hl8 := e8 _ _ hl6
      have s8 : Sx C H5 H8 := e6.trans (Same.sx e8)
      refine ⟨t, _, _, _, rfl, rfl, SqT.of ht8, rfl, sp, _, dx8, _, _, rfl, hp8, T.c_Story, T.na_Story_hung, rfl, ?_⟩
      have rng : (((List.range (i + 1)).filter fun (j : Nat) => apartS (getK (workS (j : Int) ds).hung a) (getK (workS (j : Int) ds).hung b)).map fun (j : Nat) => (j : Int)).map V.int = (((List.range i).filter fun (j : Nat) => apartS (getK (workS (j : Int) ds).hung a) (getK (workS (j : Int) ds).hung b)).map fun (j : Nat) => (j : Int)).map V.int ++ (if apartS (getK (workS (i : Int) ds).hung a) (getK (workS (i : Int) ds).hung b) = true then [V.int (i : Int)] else []) := by
        rw [List.range_succ, List.filter_append, List.map_append, List.map_append, List.filter_cons]
        cases apartS (getK (workS (i : Int) ds).hung a) (getK (workS (i : Int) ds).hung b) <;> rfl
      have no : apartS (getK (workS (i : Int) ds).hung a) (getK (workS (i : Int) ds).hung b) = false → ∀ H9, Same H8 H9 → Sx C H5 H9 ∧ H9 C = some (.lst ((((List.range (i + 1)).filter fun (j : Nat) => apartS (getK (workS (j : Int) ds).hung a) (getK (workS (j : Int) ds).hung b)).map fun (j : Nat) => (j : Int)).map V.int)) := fun e H9 e9 => by
        rw [rng, e, if_neg Bool.false_ne_true, List.append_nil]
        exact ⟨s8.trans (Same.sx e9), e9 _ _ hl8⟩
      refine ⟨_, rfl, _, rfl, h, _, rfl, DGet.k (k := Sum.inr a) hh, _, rfl, ?_⟩
      rcases R.val a with ⟨g1, g2⟩ | ⟨q, bq, g1, g2, g3⟩
      · rw [g2]
        obtain ⟨z1, z2⟩ := no (by rw [g1]; rfl) H8 (fun _ _ z => z)
        exact iteF (iteF ⟨z1, ⟨_, _, _, rfl⟩, z2⟩)
      · rw [g2]
        refine iteT ⟨_, rfl, _, rfl, h, _, rfl, DGet.k (k := Sum.inr b) hh, _, rfl, ?_⟩
        rcases R.val b with ⟨f1, f2⟩ | ⟨q', bq', f1, f2, f3⟩
        · rw [f2]
          obtain ⟨z1, z2⟩ := no (by rw [g1, f1]; rfl) H8 (fun _ _ z => z)
          exact iteF (iteF ⟨z1, ⟨_, _, _, rfl⟩, z2⟩)
        · rw [f2]
          have d1 := DGet.k (k := Sum.inr a) hh
          rw [g2] at d1
          refine iteT ⟨_, rfl, _, rfl, h, _, rfl, d1, bq, q, 1, 0, rfl, SqT.of g3, fun H9 c e9 hc hc9 => ?_⟩
          have e9 : Same H8 H9 := e9
          have d2 := DGet.k (k := Sum.inr b) (e9 _ _ hh)
          rw [f2] at d2
          have dc := dp_tup (K := K) (SqT.of hc9) rfl
          have dq := dp_tup (K := K) (SqT.of (e9 _ _ f3)) rfl
          refine ⟨_, rfl, _, rfl, h, _, rfl, d2, _, _, dc.1, dq.1, dc.2, dq.2, _, rfl, ?_⟩
          rw [pair_data]
          have ap : apartS (getK (workS (i : Int) ds).hung a) (getK (workS (i : Int) ds).hung b) = decide (moved q 1 0 = q') := by rw [g1, f1]; rfl
          cases c0 : decide (moved q 1 0 = q') with
          | true =>
            rw [ap, c0, if_pos rfl] at rng
            refine iteT ⟨_, rfl, .inl ⟨rfl, _, SqL.of (e9 _ _ hl8)⟩, _, rfl, C, _, _, rfl, rfl, e9 _ _ hl8, ?_, (s8.trans (Same.sx e9)).put, ⟨_, _, _, rfl⟩, ?_⟩
            · rw [List.length_map, List.length_map, sizeLine_eq]
              have := List.length_filter_le (fun (j : Nat) => apartS (getK (workS (j : Int) ds).hung a) (getK (workS (j : Int) ds).hung b)) (List.range i)
              rw [List.length_range] at this
              omega
            · rw [upd_same, rng]
              dsimp only
              rw [ei]
          | false =>
            obtain ⟨z1, z2⟩ := no (by rw [ap, c0]) H9 e9
            exact iteF ⟨z1, ⟨_, _, _, rfl⟩, z2⟩
    rintro σ' HQ ⟨e4q, ⟨y1, y2, y3, rfl⟩, hC4⟩
    have e43 := back HQ e4q
    refine ⟨_, rfl, _, _, rfl, ⟨by decide, by decide, by omega, by omega⟩, fun F hF => lc_it (walk_range (lo := 1) (n := ((boundOf ds) - 1).toNat)) (fun i H' => Same HQ H' ∧ H' F = some (.lst ((((List.range i).map fun (j : Nat) => 1 + (j : Int)).filter fun d => (apart ds a b d)).map V.int))) ⟨Same.new hF, upd_same⟩ (fun _ _ _ _ => trivial) ?_ ?_⟩
    · rintro i x1 H5 H6 hi ⟨e5, hl5⟩ ⟨eH, rfl⟩
      have eH2 : H5 = H6 := eH.symm
      subst eH2
      have hD5 := hD4.mono (e43.trans e5)
      refine ⟨rfl, ?_⟩
      refine ⟨_, rfl, _, rfl, _, rfl, _, rfl, u', ds, 1 + (i : Int), a, b, rfl, hD5, ok.ok, by omega, by omega, by omega, fun H6 e56 => ⟨_, rfl, ?_⟩⟩
      have e56 : Same H5 H6 := e56
      rw [List.range_succ, List.map_append, List.filter_append, show (List.map (fun (j : Nat) => 1 + (j : Int)) [i]) = [1 + (i : Int)] from rfl]
      cases c : (apart ds a b (1 + (i : Int))) with
      | true =>
        refine iteT ⟨_, rfl, _, e56 _ _ hl5, ?_, (e5.trans e56).put hF, ?_⟩
        · rw [List.length_map, sizeLine_eq]
          have := List.length_filter_le (fun d => (apart ds a b d)) ((List.range i).map fun (j : Nat) => 1 + (j : Int))
          rw [List.length_map, List.length_range] at this
          omega
        · rw [upd_same, List.filter_cons, c, if_pos rfl, List.map_append]
          rfl
      | false =>
        refine iteF ⟨e5.trans e56, ?_⟩
        rw [List.filter_cons, c, if_neg Bool.false_ne_true, List.filter_nil, List.append_nil]
        exact e56 _ _ hl5
    rintro H5 ⟨e53, hF5⟩
    refine ⟨_, rfl, _, rfl, _, rfl, _, rfl, modOf ds, (boundOf ds), C, F, _, _, rfl, e53 _ _ hC4, hF5, hm, ?_, ?_, b1, by omega, fun H6 r e6 hs => ?_⟩
    · exact nodup_map_inj ((List.filter_sublist).nodup List.nodup_range) fun a _ b _ e => by omega
    · intro c hc
      obtain ⟨j, hj, rfl⟩ := List.mem_map.mp hc
      have := List.mem_range.mp (List.mem_filter.mp hj).1
      omega
    · have e6 : Same H5 H6 := e6
      refine kk H6 r ((((e12.trans e24).trans e43).trans e53).trans e6) (hs.congr fun d hd => ?_)
      by_cases c : d < (boundOf ds)
      · rw [if_pos c]
        have : d ∈ ((List.range ((boundOf ds) - 1).toNat).map fun (j : Nat) => 1 + (j : Int)).filter (fun d => (apart ds a b d)) ↔ (apart ds a b d) = true := by
          rw [List.mem_filter]
          refine ⟨fun z => z.2, fun z => ⟨List.mem_map.mpr ⟨(d - 1).toNat, List.mem_range.mpr (by omega), by omega⟩, z⟩⟩
        rw [Bool.eq_iff_iff, decide_eq_true_eq]
        exact this
      · rw [if_neg c]
        have a0 : 0 ≤ d % modOf ds := Int.emod_nonneg _ (by omega)
        have a1 : d % modOf ds < modOf ds := Int.emod_lt_of_pos _ (by omega)
        have : d % modOf ds ∈ ((List.range (modOf ds).toNat).filter fun (j : Nat) => (apartS (getK (workS (j : Int) ds).hung a) (getK (workS (j : Int) ds).hung b))).map (fun (j : Nat) => (j : Int)) ↔ (apartS (getK (workS (d % modOf ds) ds).hung a) (getK (workS (d % modOf ds) ds).hung b)) = true := by
          rw [List.mem_map]
          constructor
          · rintro ⟨j, hj, e⟩
            have := (List.mem_filter.mp hj).2
            rw [e] at this
            exact this
          · intro z
            exact ⟨(d % modOf ds).toNat, List.mem_filter.mpr ⟨List.mem_range.mpr (by omega), by rw [Int.toNat_of_nonneg a0]; exact z⟩, Int.toNat_of_nonneg a0⟩
        rw [Bool.eq_iff_iff, decide_eq_true_eq]
        exact this.trans (by rw [apart_sim ok.ok a b (by omega)])
end
end Rln
end
section
set_option Elab.async false
set_option linter.all false
set_option maxRecDepth 100000
set_option maxHeartbeats 4000000
namespace Rln
open PySem PySem.Spec PyProof.Rows L2
theorem _root_.L2.call_isiB {X : Cx} {K : PySem.W.Frag} (hK : X.K = K) : CallR X (.builtin "isinstance") (rIsi K) := by
  subst hK
  exact call_isi
section
variable {P : Program} {w : World} {K : PySem.W.Frag} {mg : Str → Option Value} {base : Heap}
/-- is_row of nothing -/
def spRow0 (K : PySem.W.Frag) : Sp := fun vs H Q _ => ∃ (A E : Addr) (d : Int), vs = [.ref E, .ref A, .int d] ∧ H A = some (.lst []) ∧ H E = some (.lst []) ∧ ∀ (H' : Hp), Same H H' → Q (.bl true) H'
theorem cal_is_row0 (T : Tx K mg) : Cal P w K mg base 4 "is_row" (spRow0 K) [] := by
  refine calD T.f_is_row T.g_is_row sc_is_row (fun vs H Q E h => ?_) (fun _ _ _ _ _ _ us hl => match us, hl with | [_, _, _], _ => rfl) (fun cdv A outer s H vs Q E hr h => ?_)
  · obtain ⟨v, x, d, rfl, _⟩ := h
    rfl
  · obtain ⟨A, E, d, rfl, hA, hE, k⟩ := h
    refine ⟨_, (pss_one (ps_ret (pe_callB (cr_all rfl) (by rfl) T.n_all (by decide +kernel) (pa_cons (pe_lc (own := [("one", 3), ("shown", 4)]) rfl sc_is_row.nd (pi_zip (by rfl) T.n_zip (pa_cons (pv 1) (pa_cons (pv 0) pa_nil))) (blkOk_by (N := N_is_row) (sc := defScope s_is_row) (own := [("one", 3), ("shown", 4)]) (by decide +kernel)) (fun _ _ _ _ _ => (pg_tupB (K := K) (n := 2) rfl rfl (pgs_cons (pg_name (i := 3) sc_is_row.nd rfl (Or.inl rfl)) (pgs_cons (pg_name (i := 4) sc_is_row.nd rfl (Or.inl rfl)) pgs_nil)))) (fun _ _ _ _ _ => pts_nil) (fun _ _ _ _ _ => (C8.pe_c (cal_is_worth T) hr (by decide) (by rfl) (pa_cons (pv 3) (pa_cons (pv 4) (pa_cons (pv 2) pa_nil)))))) pa_nil)))), ?_⟩
    refine ⟨_, rfl, _, rfl, A, E, _, _, rfl, SqL.of hA, SqL.of hE, fun D hD => lc_it (walk_zip (xs := []) (ys := []) (n := 0) rfl)
      (fun i H' => Same H H' ∧ H' D = some (.lst (([] : List Bool).map V.bl))) ⟨Same.new hD, upd_same⟩ (fun i H' _ h => ⟨SqL.of (h.1 _ _ hA), SqL.of (h.1 _ _ hE)⟩) (fun i _ _ _ hi => absurd hi (by omega)) ?_⟩
    rintro H1 ⟨e1, h1⟩
    exact ⟨D, [], rfl, SqL.of h1, k H1 e1⟩
abbrev N_is_told : List Str := ["told", "wanted", "one", "other"]
theorem sc_is_told : FnScope N_is_told ["told", "wanted"] (defScope s_is_told) := ⟨rfl, rfl, rfl, by decide +kernel, rfl, by decide +kernel, by decide +kernel⟩
theorem cal_is_told0 (T : Tx K mg) : Cal P w K mg base 4 "is_told" (fun _ _ _ _ => False) [] :=
  calD T.f_is_told T.g_is_told sc_is_told (fun vs H Q E h => h.elim) (fun _ _ _ _ _ _ us hl => match us, hl with | [_, _], _ => rfl) (fun cdv A outer s H vs Q E hr h => h.elim)
abbrev N_same_tellings : List Str := ["plan", "told", "deeds", "rows", "start", "modulus", "classes", "single", "remainder", "row", "growing", "found", "early", "place", "shown", "distance"]
theorem sc_same_tellings : FnScope N_same_tellings ["plan", "told"] (defScope s_same_tellings) := ⟨rfl, rfl, rfl, by decide +kernel, rfl, by decide +kernel, by decide +kernel⟩
def spSameT (K : PySem.W.Frag) : Sp := fun vs H Q _ => ∃ (v : V) (ds : List (Deed Str)) (A : Addr) (us : List V), vs = [v, .ref A] ∧ PlanAt K H v ds ∧ H A = some (.lst us) ∧ ds.length ≤ 20 ∧
  ((us.length ≠ ds.length ∧ ∀ H' r, Same H H' → SetAt K H' r (fun _ => false) → Q r H') ∨ (ds = [] ∧ us = [] ∧ ∀ H' r, Same H H' → SetAt K H' r (fun _ => true) → Q r H'))
theorem cal_same_tellings (T : Tx K mg) : Cal P w K mg base 10 "same_tellings" (spSameT K) [] := by
  refine calD T.f_same_tellings T.g_same_tellings sc_same_tellings (fun vs H Q E h => ?_) (fun _ _ _ _ _ _ us hl => match us, hl with | [_, _], _ => rfl) (fun cdv A outer s H vs Q E hr h => ?_)
  · obtain ⟨v, _, _, _, rfl, _⟩ := h
    rfl
  · obtain ⟨v, ds, A0, us, rfl, hP, hA, hl, kk⟩ := h
    refine ⟨_, (pss_cons (ps_if (pt_not (pt_val (pe_callB call_isi (by rfl) T.n_isinstance (by decide +kernel) (pa_cons (pv 1) (pa_cons (pe_bltn (v := .ty "list") (by rfl) T.n_list boot_list rfl) pa_nil))))) pss_never pss_nil)
      (pss_cons (ps_if (pt_cmpR op_ne (pe_callB call_len_seq (by rfl) T.n_len (by decide +kernel) (pa_cons (pv 1) pa_nil)) (pe_callB (call_len_own (met_len T) (hr.mono (by decide))) (by rfl) T.n_len (by decide +kernel) (pa_cons (pv 0) pa_nil)) (nomark _)) (pss_one (ps_ret (pe_mk0 (mak_Dist0 T) hr (by decide) (by rfl)))) pss_nil)
      (pss_cons (ps_set (i := 2) sc_same_tellings.nd rfl (Or.inr rfl) (C8.pe_mt0 (met_deeds T) hr (by decide) (pv 0)))
      (pss_cons (ps_set (i := 3) sc_same_tellings.nd rfl (Or.inl rfl) (C8.pe_c (cal_rows_of T) hr (by decide) (by rfl) (pa_cons (pv 2) pa_nil)))
      (pss_cons (ps_par (i := 4) (j := 5) (by rfl) sc_same_tellings.nd rfl rfl (by decide) rfl rfl (pa_cons (C8.pe_c (cal_start_of T) hr (by decide) (by rfl) (pa_cons (pv 2) (pa_cons (pv 3) pa_nil))) (pa_cons (pe_callB call_len_seq (by rfl) T.n_len (by decide +kernel) (pa_cons (pv 3) pa_nil)) pa_nil)) (by rfl))
      (pss_cons (ps_par (i := 6) (j := 7) (by rfl) sc_same_tellings.nd rfl rfl (by decide) rfl rfl (pa_cons (pe_lst pa_nil) (pa_cons (pe_lst pa_nil) pa_nil)) (by rfl))
      (pss_cons (ps_for PassesOwn.never rfl (pi_enum (by rfl) T.n_enumerate (pa_cons (pv 3) pa_nil)) (pg_tup rfl (pgs_cons (pg_name (i := 8) sc_same_tellings.nd rfl (Or.inl rfl)) (pgs_cons (pg_name (i := 9) sc_same_tellings.nd rfl (Or.inr rfl)) pgs_nil))) (pss_cons (ps_setLc (i := 10) (own := [("place", 13), ("shown", 14)]) rfl sc_same_tellings.nd rfl rfl (sw_true rfl rfl rfl (by decide +kernel)) (pi_enum (by rfl) T.n_enumerate (pa_cons (pv 9) pa_nil)) (blkOk_by (N := N_same_tellings) (sc := defScope s_same_tellings) (own := [("place", 13), ("shown", 14)]) (by decide +kernel)) (fun _ _ _ _ _ => (pg_tupB (K := K) (n := 2) rfl rfl (pgs_cons (pg_name (i := 13) sc_same_tellings.nd rfl (Or.inl rfl)) (pgs_cons (pg_name (i := 14) sc_same_tellings.nd rfl (Or.inl rfl)) pgs_nil)))) (fun _ _ _ _ _ => pts_one (PW.pt (pw_and (pt_val (pe_callB (call_isiB (K := K) rfl) (by rfl) T.n_isinstance (by decide +kernel) (pa_cons (pv 14) (pa_cons (pe_glob (v := .ref _) (by rfl) T.g_Form rfl) pa_nil)))) (pw_and1 (pt_cmpR op_ne (pe_ix (ix_tupB (K := K) rfl) (C8.pe_mt0 (met_parts T) hr (by decide) (pv 14)) pe_int (fun _ _ => rfl)) pe_int (nomark _)))))) (fun _ _ _ _ _ => (pv 13)))
      (pss_one (ps_if (pt_cmpR (op_eqD hr.units) (pv 10) (pe_lst pa_nil) (nomark _)) (pss_one (ps_expr (pe_bm PySem.F.plainAttrs_list PySem.F.slot_list_extend PySem.F.type_list_extend mt_extend (pv 6) (pa_cons (pe_ifExp (pt_val (C8.pe_c (cal_is_row0 T) hr (by decide) (by rfl) (pa_cons (pv 9) (pa_cons (pv 1) (pa_cons (pv 4) pa_nil))))) (pe_lst (pa_cons (pv 8) pa_nil)) (pe_lst pa_nil)) pa_nil)))) (pss_one (ps_if (pt_val (C8.pe_c (cal_is_whole T) hr (by decide) (by rfl) (pa_cons (pe_ix ix_list (pv 1) (pe_ix ix_list (pv 10) pe_int (fun _ _ => rfl)) (fun _ _ => rfl)) pa_nil))) (pss_cons (ps_never)
      (pss_one (ps_never))) pss_nil))))))
      (pss_cons (ps_setLc (i := 12) (own := [("distance", 15)]) rfl sc_same_tellings.nd rfl rfl (sw_true rfl rfl rfl (by decide +kernel)) (pi_range2 (by rfl) T.n_range (pa_cons pe_int (pa_cons (pv 4) pa_nil))) (blkOk_by (N := N_same_tellings) (sc := defScope s_same_tellings) (own := [("distance", 15)]) (by decide +kernel)) (fun _ _ _ _ _ => (pg_name (i := 15) sc_same_tellings.nd rfl (Or.inl rfl))) (fun _ _ _ _ _ => pts_one (pt_val (C8.pe_c (cal_is_told0 T) hr (by decide) (by rfl) (pa_cons (C8.pe_c (cal_told_of T) hr (by decide) (by rfl) (pa_cons (pv 2) (pa_cons (pv 15) pa_nil))) (pa_cons (pv 1) pa_nil))))) (fun _ _ _ _ _ => (pv 15)))
      (pss_one (ps_ret (pe_op (op_own (op := .BitXor) (met_xor T) T.sf_Dist (hr.mono (by decide))) (C8.pe_c (cal_set_of T) hr (by decide) (by rfl) (pa_cons (pv 5) (pa_cons (pv 6) (pa_cons (pv 4) (pa_cons (pv 12) pa_nil))))) (C8.pe_mk (mak_Dist3 T) hr (by decide) (by rfl) (pa_cons pe_int (pa_cons (pe_tup pa_nil) (pa_cons (pe_callTy call_tuple_of (by rfl) T.n_tuple boot_tuple (pa_cons (pv 7) pa_nil)) pa_nil))))))))))))))), ?_⟩
    obtain ⟨p, dx, u, rfl, hp, hD⟩ := id hP
    refine ⟨_, rfl, _, _, _, _, _, rfl, .ty _, .base (.lst hA), k_tt, _, rfl, iteF ?_⟩
    refine ⟨_, rfl, A0, _, rfl, .inl (SqL.of hA), _, rfl, ⟨p, dx, _, rfl, hp⟩, .ref p, ds, rfl, hP, _, rfl, by omega, by omega, rfl, _, rfl, ?_⟩
    rcases kk with ⟨hne, kk⟩ | ⟨rfl, rfl, kk⟩
    · refine iteTd (by rw [decide_eq_false (fun z => hne (by have := V.int.inj z; omega))]; rfl) ?_
      intro x dx' hx hdx ne
      have up : Same H (upd (upd H dx' (.own x)) x (.ins (cDist K) dx' [])) := fun b u z => by
        rw [upd_ne (ne_of_none z hx), upd_ne (ne_of_none z hdx)]
        exact z
      refine ⟨x, dx', _, _, _, rfl, upd_same, .inr ⟨1, [], [], rfl, by decide, T.d_Dist1 _, T.d_Dist2 _, List.nodup_nil, fun c hc => (by cases hc), List.nodup_nil, fun c hc => (by cases hc), fun H9 s9 hs9 => ⟨rfl, ?_⟩⟩⟩
      exact kk H9 _ (Sx.made s9 hx hdx) (hs9.congr fun d hd => by simp)
    · refine iteFd (by decide) ?_
      refine ⟨_, rfl, p, dx, _, rfl, hp, rfl, .ref p, [], rfl, hP, fun u' hD' => ?_⟩
      have ho : ∀ x ∈ ([] : List (Deed Str)), deedOk x := fun x hx => by cases hx
      refine ⟨_, rfl, u', [], rfl, hD', ho, by decide, fun H2 D e2 hDn hR => ?_⟩
      have e2 : Same H H2 := e2
      refine ⟨_, rfl, _, rfl, u', .ref D, [], rfl, hD'.mono e2, hR, ho, by decide, by decide, fun H3 st e3 s1 s2 hrow => ?_⟩
      have e3 : Same H2 H3 := e3
      have st1 : st = 1 := by
        have : boundOf ([] : List (Deed Str)) = 1 := rfl
        omega
      subst st1
      obtain ⟨_, rs, eD, hrs, lrs, hrows⟩ := hR.mono e3
      cases eD
      have lr1 : rs.length = 1 := by
        have : modOf ([] : List (Deed Str)) = 1 := rfl
        omega
      refine ⟨_, rfl, D, _, rfl, .inl (SqL.of hrs), _, _, rfl, ?_⟩
      rw [lr1]
      refine ⟨by decide, fun C hC => ⟨by decide, fun G hG => ⟨_, _, rfl, ?_⟩⟩⟩
      have nGC : G ≠ C := Ne.symm (ne_of_none upd_same hG)
      have e30 : Same H3 (upd (upd H3 C (.lst [])) G (.lst [])) := (Same.new hC).add hG
      have hC0 : upd (upd H3 C (.lst [])) G (.lst []) C = some (.lst []) := by rw [upd_ne (Ne.symm nGC), upd_same]
      have hG0 : upd (upd H3 C (.lst [])) G (.lst []) G = some (.lst []) := upd_same
      generalize upd (upd H3 C (.lst [])) G (.lst []) = H30 at e30 hC0 hG0
      have back : ∀ H', Sx C H30 H' → Same H3 H' := fun H' e b z ez => e b z (ne_of_none ez hC) (e30 b z ez)
      refine ⟨_, rfl, D, rs, rfl, SqL.of (e30 _ _ hrs), for_it (walk_enum (xs := rs)) (fun i σ' H' => Sx C H30 H' ∧ (∃ x1 x2 x3 x4, σ' = [some (.ref p), some (.ref A0), some u', some (.ref D), some (.int 1), some (.int 1), some (.ref C), some (.ref G), x1, x2, x3, x4, none, none, none, none]) ∧ H' C = some (.lst (((List.range i).map fun (j : Nat) => (j : Int)).map V.int))) ⟨fun _ _ _ z => z, ⟨_, _, _, _, rfl⟩, hC0⟩ (fun i σ' H' _ h => SqL.of (back H' h.1 _ _ hrs)) ?_ ?_⟩
      · rintro i x1 σ' H4 H5 hi ⟨e4, ⟨y1, y2, y3, y4, rfl⟩, hl4⟩ ⟨t, x2, yy, rfl, ht, rfl, hx2, hy2⟩
        cases hx2
        have hi0 : i = 0 := by omega
        subst hi0
        obtain ⟨E', us', g1, g2, g3⟩ := hrows 0 (by decide)
        have ey : .ref E' = yy := Option.some.inj (g1.symm.trans hy2)
        subst ey
        have eus : us' = [] := List.length_eq_zero_iff.mp g3.len
        subst eus
        have e45 : Same H4 (upd H4 t (.tup [.int ((0 : Nat) : Int), .ref E'])) := Same.new ht
        have e35 := (back H4 e4).trans e45
        have hE5 := e35 _ _ g2
        have hl5 := e45 _ _ hl4
        have e5 : Sx C H30 (upd H4 t (.tup [.int ((0 : Nat) : Int), .ref E'])) := e4.trans (Same.sx e45)
        refine ⟨t, _, rfl, SqT.of upd_same, rfl, _, _, rfl, _, _, rfl, rfl, ?_⟩
        generalize upd H4 t (.tup [.int ((0 : Nat) : Int), .ref E']) = H5 at e45 e35 hE5 hl5 e5
        refine ⟨_, rfl, E', [], rfl, SqL.of hE5, fun W hW => lc_it (walk_enum (xs := [])) (fun i H' => Same H5 H' ∧ H' W = some (.lst [])) ⟨Same.new hW, upd_same⟩ (fun i H' _ h => SqL.of (h.1 _ _ hE5)) (fun i _ _ _ hi => absurd hi (by show ¬ i < 0; omega)) ?_⟩
        rintro H6 ⟨e6, hW6⟩
        refine ⟨_, rfl, by decide, fun z hz => ?_⟩
        have e7 : Same H6 (upd H6 z (.lst [])) := Same.new hz
        have hz7 : upd H6 z (.lst []) z = some (.lst []) := upd_same
        generalize upd H6 z (.lst []) = H7 at e7 hz7
        refine ⟨.list [], .list [], .lst (SqL.of (e7 _ _ hW6)) .nil, .lst (SqL.of hz7) .nil, rfl, rfl, _, rfl, iteTd (by simp [PyData.eqv, PyData.eqvAll]) ?_⟩
        have e57 := e6.trans e7
        refine ⟨_, rfl, .inl ⟨rfl, _, SqL.of (e57 _ _ hl5)⟩, _, rfl, _, rfl, _, rfl, A0, E', 1, rfl, ?_, e57 _ _ hE5, fun H8 e8 => ⟨_, rfl, iteT ⟨_, rfl, by show 1 ≤ sizeLine; decide, fun q hq => ?_⟩⟩⟩
        · exact (e35.trans e57) _ _ ((e2.trans e3) _ _ hA)
        · have e8 : Same H7 H8 := e8
          have hl8 := e8 _ _ (e57 _ _ hl5)
          refine ⟨C, q, _, _, rfl, rfl, by rw [upd_ne (ne_of_none hl8 hq)]; exact hl8, upd_same, by show 0 + 1 ≤ _; rw [sizeLine_eq]; omega, ?_, ⟨_, _, _, _, rfl⟩, ?_⟩
          · exact ((e5.trans (Same.sx (e57.trans e8))).new hq).put
          · rw [upd_same]
            rfl
      · rintro σ' H4 ⟨e4, ⟨y1, y2, y3, y4, rfl⟩, hC4⟩
        have e34 := back H4 e4
        have hG4 := e4 _ _ nGC hG0
        rw [lr1] at hC4
        refine ⟨_, rfl, _, _, rfl, ⟨by decide, by decide, by decide, by decide⟩, fun F hF => lc_it (walk_range (lo := 1) (n := 0)) (fun i H' => Same H4 H' ∧ H' F = some (.lst (([] : List Int).map V.int))) ⟨Same.new hF, upd_same⟩ (fun _ _ _ _ => trivial) (fun i _ _ _ hi => absurd hi (by omega)) ?_⟩
        rintro H5 ⟨e5, hF5⟩
        refine ⟨_, rfl, _, rfl, _, rfl, _, rfl, 1, 1, C, F, [0], [], rfl, e5 _ _ hC4, hF5, by decide, by decide, by decide, by decide, by decide, fun H6 r e6 hs => ?_⟩
        have e6 : Same H5 H6 := e6
        have hG6 := e6 _ _ (e5 _ _ hG4)
        refine ⟨by decide, fun tp htp => ?_⟩
        have e7 : Same H6 (upd H6 tp (.tup [])) := Same.new htp
        have htp7 : upd H6 tp (.tup []) tp = some (.tup (([] : List Int).map V.int)) := upd_same
        generalize upd H6 tp (.tup []) = H7 at e7 htp7
        refine ⟨_, rfl, G, _, rfl, .inl ⟨SqL.of (e7 _ _ hG6), fun tq htq => ?_⟩⟩
        have e8 : Same H7 (upd H7 tq (.tup [])) := Same.new htq
        have htq8 : upd H7 tq (.tup []) tq = some (.tup (([] : List Int).map V.int)) := upd_same
        generalize upd H7 tq (.tup []) = H8 at e8 htq8
        intro x dx hx hdx ne
        have up : Same H8 (upd (upd H8 dx (.own x)) x (.ins (cDist K) dx [])) := fun b u z => by
          rw [upd_ne (ne_of_none z hx), upd_ne (ne_of_none z hdx)]
          exact z
        refine ⟨x, dx, _, tp, tq, rfl, upd_same, .inr ⟨1, [], [], rfl, by decide, SqT.of (up _ _ (e8 _ _ htp7)), SqT.of (up _ _ htq8), List.nodup_nil, fun c hc => (by cases hc), List.nodup_nil, fun c hc => (by cases hc), fun H9 s9 hs9 => ⟨rfl, ?_⟩⟩⟩
        have e9 : Same H8 H9 := Sx.made s9 hx hdx
        have hs' := hs.mono ((e7.trans e8).trans e9)
        refine ⟨hs'.two hs9, _, _, _, _, rfl, hs', hs9, fun H10 r10 e10 hs10 => ?_⟩
        refine kk H10 r10 ((((((((e2.trans e3).trans e34).trans e5).trans e6).trans e7).trans e8).trans e9).trans e10) (hs10.congr fun d hd => ?_)
        have hd1 : ¬ d < 1 := by omega
        have hd2 : d % 1 = 0 := by omega
        simp [hd1, hd2]
end
end Rln
end
section
set_option Elab.async false
set_option linter.all false
set_option maxRecDepth 100000
set_option maxHeartbeats 4000000
namespace Rln
open PySem PySem.Spec PyProof.Rows L2
theorem IxD.erase {H : Hp} {us ds} (h : IxD H us ds) (k : Nat) : IxD H (us.eraseIdx k) (ds.eraseIdx k) := by
  rw [List.eraseIdx_eq_take_drop_succ, List.eraseIdx_eq_take_drop_succ]
  exact (h.take k).app (h.drop (k + 1))
theorem take_erase {α : Type} (us : List α) (k i : Nat) (h : i < us.length) : (us.take (i + 1)).eraseIdx k = (us.take i).eraseIdx k ++ (if i = k then [] else [us[i]]) := by
  have hl : (us.take i).length = i := by rw [List.length_take]; omega
  rw [List.take_succ_eq_append_getElem h]
  by_cases c : i = k
  · subst c
    rw [if_pos rfl, List.append_nil, List.eraseIdx_append_of_length_le (by omega), hl, Nat.sub_self, List.eraseIdx_of_length_le (by omega : (us.take i).length ≤ i)]
    simp
  · rw [if_neg c]
    by_cases c2 : k < i
    · rw [List.eraseIdx_append_of_lt_length (by omega)]
    · rw [List.eraseIdx_append_of_length_le (by omega), hl, List.eraseIdx_of_length_le (by omega : (us.take i).length ≤ k)]
      congr 1
      exact List.eraseIdx_of_length_le (by show 1 ≤ k - i; omega)
section
variable {P : Program} {w : World} {K : PySem.W.Frag} {mg : Str → Option Value} {base : Heap}
abbrev N_Plan_without : List Str := ["self", "indexes", "left_out", "index", "deed"]
theorem sc_Plan_without : FnScope N_Plan_without ["self", "indexes"] (defScope s_Plan_without) := ⟨rfl, rfl, rfl, by decide +kernel, rfl, by decide +kernel, by decide +kernel⟩
def spWithout (K : PySem.W.Frag) : Sp := fun vs H Q _ => ∃ (v : V) (ds : List (Deed Str)) (I : Addr) (k : Nat), vs = [v, .ref I] ∧ PlanAt K H v ds ∧ SqT K H I [.int k] ∧ k < ds.length ∧ ds.length ≤ 12 ∧ (∀ x ∈ ds, deedOk x) ∧ ∀ H' r, Same H H' → PlanAt K H' r (ds.eraseIdx k) → Q r H'
theorem met_without (T : Tx K mg) : Met P w K mg base 7 (cPlan K) "without" (spWithout K) [] := by
  refine metD T.f_Plan_without T.c_Plan T.m_Plan_without sc_Plan_without (fun vs H Q E h => ?_) (fun _ _ _ _ _ _ us hl => match us, hl with | [_, _], _ => rfl) (fun cdv A outer s H vs Q E hr h => ?_)
  · obtain ⟨v, _, _, _, rfl, _⟩ := h
    rfl
  · obtain ⟨v, ds, I, k, rfl, hP, hI, hk, hl, ho, kk⟩ := h
    refine ⟨_, (pss_cons (ps_if (pt_not (pt_val (pe_callB call_isi (by rfl) T.n_isinstance (by decide +kernel) (pa_cons (pv 1) (pa_cons (pe_bltn (v := .ty "tuple") (by rfl) T.n_tuple boot_tuple rfl) pa_nil))))) pss_never pss_nil)
      (pss_cons (ps_set (i := 2) sc_Plan_without.nd rfl (Or.inr rfl) (pe_lst pa_nil))
      (pss_cons (ps_for PassesOwn.never rfl (pi_tup (pv 1)) (pg_name (i := 3) sc_Plan_without.nd rfl (Or.inl rfl)) (pss_cons (ps_if (PW.pt (pw_or (pt_not (pt_val (C8.pe_mt (met_has T) hr (by decide) (pv 0) (pa_cons (pv 3) pa_nil)))) (pw_or1 (pt_cmpR op_in_seq (pv 3) (pv 2) (by rfl))))) pss_never pss_nil)
      (pss_one (ps_expr (pe_bm PySem.F.plainAttrs_list PySem.F.slot_list_append PySem.F.type_list_append mt_append (pv 2) (pa_cons (pv 3) pa_nil))))))
      (pss_one (ps_ret (C8.pe_mk (mak_Plan1 T) hr (by decide) (by rfl) (pa_cons (pe_callTy call_tuple_of (by rfl) T.n_tuple boot_tuple (pa_cons (pe_lc (own := [("index", 3), ("deed", 4)]) rfl sc_Plan_without.nd (pi_enumT (by rfl) T.n_enumerate (pa_cons (pe_fld (pv 0) rfl) pa_nil)) (blkOk_by (N := N_Plan_without) (sc := defScope s_Plan_without) (own := [("index", 3), ("deed", 4)]) (by decide +kernel)) (fun _ _ _ _ _ => (pg_tupB (K := K) (n := 2) rfl rfl (pgs_cons (pg_name (i := 3) sc_Plan_without.nd rfl (Or.inl rfl)) (pgs_cons (pg_name (i := 4) sc_Plan_without.nd rfl (Or.inl rfl)) pgs_nil)))) (fun _ _ _ _ _ => pts_one (pt_cmpR (op_notIn_seqB (K := K) rfl) (pv 3) (pv 2) (by rfl))) (fun _ _ _ _ _ => (pv 4))) pa_nil)) pa_nil))))))), ?_⟩
    refine ⟨_, rfl, _, _, _, _, _, rfl, .ty _, ty_sqt hI, k_tt, _, rfl, iteF ?_⟩
    obtain ⟨p, dx, u, rfl, hp, hD⟩ := id hP
    refine ⟨by decide, fun L hL => ?_⟩
    have e1 : Same H (upd H L (.lst [])) := Same.new hL
    have hL1 : upd H L (.lst []) L = some (.lst []) := upd_same
    generalize upd H L (.lst []) = H1 at e1 hL1
    have back : ∀ H', Sx L H1 H' → Same H H' := fun H' e b z ez => e b z (ne_of_none ez hL) (e1 b z ez)
    refine ⟨_, rfl, I, rfl, ⟨_, e1.sqt hI⟩, for_it (walk_tup (xs := [V.int k])) (fun i σ' H' => Sx L H1 H' ∧ (∃ x1 x2, σ' = [some (.ref p), some (.ref I), some (.ref L), x1, x2]) ∧ H' L = some (.lst (([V.int k] : List V).take i))) ⟨fun _ _ _ z => z, ⟨_, _, rfl⟩, hL1⟩ (fun i σ' H' _ h => (back H' h.1).sqt hI) ?_ ?_⟩
    · rintro i x1 σ' H4 H5 hi ⟨e4, ⟨y1, y2, rfl⟩, hl4⟩ ⟨eH, hx⟩
      have eH2 : H4 = H5 := eH.symm
      subst eH2
      have hi0 : i = 0 := by
        have : i < 1 := hi
        omega
      subst hi0
      cases hx
      have e04 := back H4 e4
      refine ⟨_, rfl, p, dx, _, rfl, e04 _ _ hp, rfl, _, rfl, .ref p, ds, k, rfl, hP.mono e04, by omega, by omega, _, rfl, iteF ?_⟩
      refine ⟨_, rfl, _, rfl, L, [], rfl, .inl (SqL.of hl4), rfl, rfl, _, rfl, iteF ?_⟩
      refine ⟨_, rfl, .inl ⟨rfl, _, SqL.of hl4⟩, _, rfl, L, _, _, rfl, rfl, hl4, by show 0 < sizeLine; decide, e4.put, ⟨_, _, rfl⟩, ?_⟩
      rw [upd_same]
      rfl
    · rintro σ' H4 ⟨e4, ⟨y1, y2, rfl⟩, hl4⟩
      have e04 := back H4 e4
      obtain ⟨a, us, rfl, hs, hi⟩ := (hD.mono e04).ix
      have hul := hi.1
      refine ⟨_, rfl, p, _, dx, _, _, rfl, e04 _ _ hp, T.c_Plan, T.na_Plan_kept, rfl, a, us, rfl, hs, fun D hD0 => lc_it (walk_enumT (xs := us)) (fun i H' => Same H4 H' ∧ H' D = some (.lst ((us.take i).eraseIdx k))) ⟨Same.new hD0, by rw [upd_same]; rfl⟩ (fun i H' _ h => h.1.sqt hs) ?_ ?_⟩
      · rintro i x1 H5 H6 hi' ⟨e5, hl5⟩ ⟨t, x2, yy, rfl, ht, rfl, hx2, hy2⟩
        cases hx2
        dsimp only at hy2
        have ey : us[i] = yy := Option.some.inj ((List.getElem?_eq_getElem hi').symm.trans hy2)
        subst ey
        have e56 : Same H5 (upd H5 t (.tup [.int (i : Nat), us[i]])) := Same.new ht
        refine ⟨t, _, rfl, SqT.of upd_same, rfl, _, _, rfl, _, _, rfl, rfl, rfl, ?_⟩
        generalize upd H5 t (.tup [.int (i : Nat), us[i]]) = H6 at e56
        refine ⟨_, rfl, _, rfl, L, _, rfl, .inl (SqL.of (e56 _ _ (e5 _ _ hl4))), rfl, rfl, _, rfl, ?_⟩
        rw [take_erase us k i hi']
        have ev : (if (true : Bool) = true then !inV (V.int (i : Nat)) ([V.int k].take 1) else inV (V.int (i : Nat)) ([V.int k].take 1)) = !decide (i = k) := by
          rw [if_pos rfl]
          show (!inV (V.int (i : Nat)) ([(k : Int)].map V.int)) = _
          rw [inV_ints]
          congr 1
          rw [Bool.eq_iff_iff, decide_eq_true_eq, decide_eq_true_eq, List.mem_singleton]
          omega
        by_cases c : i = k
        · refine iteFd ?_ ⟨e5.trans e56, ?_⟩
          · refine Eq.trans ?_ (ev.trans (by rw [decide_eq_true c]; rfl))
            rfl
          · rw [if_pos c, List.append_nil]
            exact e56 _ _ hl5
        · refine iteTd ?_ ⟨_, rfl, _, e56 _ _ hl5, ?_, (e5.trans e56).put hD0, ?_⟩
          · refine Eq.trans ?_ (ev.trans (by rw [decide_eq_false c]; rfl))
            rfl
          · have := List.length_eraseIdx_le (us.take i) k
            rw [List.length_take] at this
            rw [sizeLine_eq]
            omega
          · rw [if_neg c, upd_same]
      · rintro H5 ⟨e5, hl5⟩
        rw [List.take_length] at hl5
        refine ⟨D, _, rfl, .inl ⟨SqL.of hl5, fun r hr' => ?_⟩⟩
        have e6 : Same H5 (upd H5 r (.tup (us.eraseIdx k))) := Same.new hr'
        have e46 := e5.trans e6
        refine plan_make (((hi.mono e46).erase k).ds (SqT.of upd_same)) (fun y hy => ho y (List.mem_of_mem_eraseIdx hy)) ?_ fun H' r' e' h => kk H' r' ((e04.trans e46).trans e') h
        have := List.length_eraseIdx_le ds k
        omega
abbrev N_Plan_exchanged : List Str := ["self", "index", "before", "behind"]
theorem sc_Plan_exchanged : FnScope N_Plan_exchanged ["self", "index"] (defScope s_Plan_exchanged) := ⟨rfl, rfl, rfl, by decide +kernel, rfl, by decide +kernel, by decide +kernel⟩
def spExch (K : PySem.W.Frag) : Sp := fun vs H Q _ => ∃ (v : V) (x y : Deed Str) (ds : List (Deed Str)), vs = [v, .int 0] ∧ PlanAt K H v (x :: y :: ds) ∧ (x :: y :: ds).length ≤ 12 ∧ (∀ z ∈ x :: y :: ds, deedOk z) ∧ ∀ H' r, Same H H' → PlanAt K H' r (y :: x :: ds) → Q r H'
theorem met_exch (T : Tx K mg) : Met P w K mg base 7 (cPlan K) "exchanged" (spExch K) [] := by
  refine metD T.f_Plan_exchanged T.c_Plan T.m_Plan_exchanged sc_Plan_exchanged (fun vs H Q E h => ?_) (fun _ _ _ _ _ _ us hl => match us, hl with | [_, _], _ => rfl) (fun cdv A outer s H vs Q E hr h => ?_)
  · obtain ⟨v, _, _, _, rfl, _⟩ := h
    rfl
  · obtain ⟨v, x, y, ds, rfl, hP, hl, ho, kk⟩ := h
    refine ⟨_, (pss_cons (ps_if (PW.pt (pw_or (pt_not (pt_val (C8.pe_mt (met_has T) hr (by decide) (pv 0) (pa_cons (pv 1) pa_nil)))) (pw_or1 (pt_not (pt_val (C8.pe_mt (met_has T) hr (by decide) (pv 0) (pa_cons (pe_op op_add (pv 1) pe_int) pa_nil))))))) pss_never pss_nil)
      (pss_cons (ps_par (i := 2) (j := 3) (by rfl) sc_Plan_exchanged.nd rfl rfl (by decide) rfl rfl (pa_cons (pe_slice sl_tupA (pe_fld (pv 0) rfl) po_none (po_some (pv 1))) (pa_cons (pe_slice sl_tupA (pe_fld (pv 0) rfl) (po_some (pe_op op_add (pv 1) pe_int)) po_none) pa_nil)) (by rfl))
      (pss_one (ps_ret (C8.pe_mk (mak_Plan1 T) hr (by decide) (by rfl) (pa_cons (pe_tup (StX.pa_star (pv 2) (pa_cons (pe_ix ix_tup (pe_fld (pv 0) rfl) (pe_op op_add (pv 1) pe_int) (fun _ _ => rfl)) (pa_cons (pe_ix ix_tup (pe_fld (pv 0) rfl) (pv 1) (fun _ _ => rfl)) (StX.pa_star (pv 3) pa_nil))))) pa_nil)))))), ?_⟩
    obtain ⟨p, dx, u, rfl, hp, hD⟩ := id hP
    obtain ⟨a, us, rfl, hs, hi⟩ := hD.ix
    have hul : us.length = ds.length + 2 := hi.1
    obtain ⟨ux, g1, dx1⟩ := hi.2 0 x rfl
    obtain ⟨uy, g2, dy1⟩ := hi.2 1 y rfl
    refine ⟨_, rfl, p, dx, _, rfl, hp, rfl, _, rfl, .ref p, _, 0, rfl, hP, by decide, by show (0 : Int) < ((ds.length + 2 : Nat) : Int); omega, _, rfl, iteF ?_⟩
    refine ⟨_, rfl, p, dx, _, rfl, hp, rfl, _, rfl, _, _, rfl, rfl, .ref p, _, 1, rfl, hP, by decide, by show (1 : Int) < ((ds.length + 2 : Nat) : Int); omega, _, rfl, iteF ?_⟩
    refine ⟨_, rfl, p, _, dx, _, _, rfl, hp, T.c_Plan, T.na_Plan_kept, rfl, _, rfl, _, rfl, a, us, rfl, hs, fun hw => ?_, fun _ q1 hq1 => ?_⟩
    · exfalso
      have := hw.2
      rw [show (some (0 : Int)) = some ((0 : Nat) : Int) from rfl, sIx_nat _ _ _ (by omega)] at this
      omega
    rw [show (some (0 : Int)) = some ((0 : Nat) : Int) from rfl, cut_take _ _ (by omega), List.take_zero]
    have e1 : Same H (upd H q1 (.tup [])) := Same.new hq1
    have hq1' : upd H q1 (.tup []) q1 = some (.tup []) := upd_same
    generalize upd H q1 (.tup []) = H1 at e1 hq1'
    refine ⟨_, rfl, p, _, dx, _, _, rfl, e1 _ _ hp, T.c_Plan, T.na_Plan_kept, rfl, _, rfl, _, _, rfl, rfl, _, rfl, a, us, rfl, e1.sqt hs, fun hw => ?_, fun _ q2 hq2 => ?_⟩
    · exfalso
      have := hw.1
      have h2 : HT.sIx us.length 0 (some ((2 : Nat) : Int)) = 0 := this
      rw [sIx_nat _ _ _ (by omega)] at h2
      omega
    have ecut : cutV us (some ((2 : Nat) : Int)) none = us.drop 2 := cut_drop _ _ (by omega)
    have e2 : Same H1 (upd H1 q2 (.tup (us.drop 2))) := Same.new hq2
    have hq2' : upd H1 q2 (.tup (us.drop 2)) q2 = some (.tup (us.drop 2)) := upd_same
    show (fun (Hx : Hp) => _) (upd H1 q2 (.tup (cutV us (some ((2 : Nat) : Int)) none)))
    rw [ecut]
    generalize upd H1 q2 (.tup (us.drop 2)) = H2 at e2 hq2'
    have e12 := e1.trans e2
    have hs2 := e12.sqt hs
    have ax : atI us 0 = some ux := atI_nat (j := 0) g1
    have ay : atI us 1 = some uy := atI_nat (j := 1) g2
    refine ⟨_, _, rfl, ?_⟩
    refine ⟨_, rfl, q1, [], rfl, .inl (SqT.of (e2 _ _ hq1')), _, rfl, p, _, dx, _, _, rfl, e12 _ _ hp, T.c_Plan, T.na_Plan_kept, rfl, _, rfl, _, _, rfl, rfl, a, us, _, _, rfl, rfl, hs2, ay, _, rfl, p, _, dx, _, _, rfl, e12 _ _ hp, T.c_Plan, T.na_Plan_kept, rfl, _, rfl, a, us, _, _, rfl, rfl, hs2, ax, _, rfl, q2, _, rfl, .inl (SqT.of hq2'), ?_, fun r hr' => ?_⟩
    · show ([] ++ (uy :: ux :: (us.drop 2 ++ []))).length ≤ sizeLine
      rw [List.nil_append, List.length_cons, List.length_cons, List.append_nil, List.length_drop, sizeLine_eq]
      have := hl
      rw [List.length_cons, List.length_cons] at this
      omega
    · have e3 : Same H2 (upd H2 r (.tup ([] ++ (uy :: ux :: (us.drop 2 ++ []))))) := Same.new hr'
      have e13 := e12.trans e3
      have hr3 : upd H2 r (.tup ([] ++ (uy :: ux :: (us.drop 2 ++ [])))) r = some (.tup (uy :: ux :: us.drop 2)) := by rw [upd_same, List.append_nil]; rfl
      have hix : IxD (upd H2 r (.tup ([] ++ (uy :: ux :: (us.drop 2 ++ []))))) ([uy] ++ ([ux] ++ us.drop 2)) ([y] ++ ([x] ++ ds)) := (IxD.one (dy1.mono e13)).app ((IxD.one (dx1.mono e13)).app ((hi.mono e13).drop 2))
      exact plan_make (hix.ds (SqT.of hr3)) (fun z hz => ho z (by
        simp only [List.cons_append, List.nil_append, List.mem_cons] at hz ⊢
        rcases hz with h | h | h
        · exact .inr (.inl h)
        · exact .inl h
        · exact .inr (.inr h))) hl fun H' r' e' h => kk H' r' (e13.trans e') h
end
end Rln
end
section
set_option Elab.async false
set_option linter.all false
set_option maxRecDepth 100000
set_option maxHeartbeats 4000000
/-! a, b, c = xs, xs a list; str(x) of a text or an int -/
namespace PyProof.Rows
open PySem
section
variable {prog : Program} {w : World} {A : Around} {E : Value → Shared → Prop}
theorem rln_draw {it l : Addr} {its : Array Value} (hne : l ≠ it) : ∀ (n i : Nat) (u : Shared) (R : List Value → Shared → Prop), u.heap.IsListIter it l i → u.heap.IsList l its → i + n ≤ its.size →
    (∀ h', h'.IsListIter it l (i + n) → Heap.SameBut it u.heap h' → R ((its.toList.drop i).take n) { u with heap := h' }) → wpAny (model prog w) A (draw (.ref it) n) R E u
  | 0, i, u, R, hit, _, _, k => by
    show wpAny _ _ (pure []) R E u
    refine wpAny_pure ?_
    have := k u.heap hit (Heap.SameBut.refl ..)
    simpa using this
  | n + 1, i, u, R, hit, hl, hle, k => by
    have lt : i < its.size := by omega
    show wpAny _ _ (pyNext (.ref it) >>= _) R E u
    refine wpAny_bind (wpAny_pyNext_list_item hit hl (x := its[i]) (by simp [lt]) fun h1 it1 s1 => ?_)
    refine wpAny_bind (wpAny_holding (rln_draw hne n (i + 1) _ _ it1 (hl.extBut s1.extBut hne) (by omega) fun h2 it2 s2 => wpAny_pure ?_))
    have ed : its.toList.drop i = its[i] :: its.toList.drop (i + 1) := by simp [List.drop_eq_getElem_cons, lt]
    have q := k h2 (by rw [show i + (n + 1) = i + 1 + n by omega]; exact it2) (s1.trans s2)
    rw [ed, List.take_succ_cons] at q
    exact q
theorem rln_unpackL {l : Addr} {its : Array Value} {tgs : List (Bool × (Value → Sem Unit))} {R : Unit → Shared → Prop} {u : Shared} (hh : A.handled = none) (hl : u.heap.IsList l its)
    (hn : tgs.length = its.size) (hst : tgs.findIdx? (·.1) = none)
    (k : ∀ h', Heap.ExtBut u.heap.objs.size u.heap h' → wpAny (model prog w) A (assignInOrder (tgs.map (·.2)) its.toList) R E { u with heap := h' }) :
    wpAny (model prog w) A (unpack (.ref l) tgs) R E u := by
  have hlt : l ≠ u.heap.objs.size := by
    obtain ⟨o, ho, _⟩ := hl
    exact Nat.ne_of_lt (Heap.lt_size ho)
  unfold unpack
  rw [hn, hst]
  refine wpAny_bind (wpAny_holding ?_)
  unfold unpackItems
  refine wpAny_bind ?_
  unfold notIterableAtAll
  refine wpAny_bind (wpAny_specialOf hl.typeIs PySem.F.slot_list_iter.lookup ?_)
  refine wpAny_pure ?_
  simp only [Bool.false_eq_true, if_false]
  refine wpAny_bind (wpAny_holding (wpAny_pyIter_list hl ?_))
  refine wpAny_bind (wpAny_holding (rln_draw hlt its.size 0 _ _ ⟨_, Heap.get?_push_size _ rfl, rfl, rfl⟩ (hl.push _) (by omega) fun h1 it1 s1 => ?_))
  have all : List.take its.size (List.drop 0 its.toList) = its.toList := by
    rw [List.drop_zero]
    exact List.take_of_length_le (by simp)
  rw [all, if_neg (by simp)]
  have hl1 : h1.IsList l its := (hl.push _).extBut s1.extBut hlt
  refine wpAny_bind (wpAny_holding (wpAny_pyNext_list_end hh it1 hl1 (by simp) fun h2 e2 => ?_))
  simp only [Option.isSome_none, Bool.false_eq_true, if_false]
  exact wpAny_pure (k h2 fun b o hb e => e2 b o hb (s1.extBut b o hb (Heap.get?_push_of_some _ e)))
end
end PyProof.Rows
namespace L2
open PySem PySem.Spec PyProof.Rows
section
variable {X : Cx}
def gTupL (K : PySem.W.Frag) (n : Nat) (t : TGs) : TG := fun v σ H Q => ∃ a xs, v = .ref a ∧ SqL K H a xs ∧ xs.length = n ∧ t xs σ H Q
theorem pg_tupL {pos : Pos} {es : List Expr} {k : Nat} {t : TGs} {n : Nat} (hc : X.calm = true) (h : PGs X es t)
    (hn : (assignEach es X.env).length = n := by rfl) (hst : (assignEach es X.env).findIdx? (·.1) = none := by rfl) : PG X (.Tuple es k pos) (gTupL X.K n t) := by
  refine ⟨fun pins s σ H v u Q I r hw => ?_⟩
  obtain ⟨a, xs, e1, hq, hl, hw⟩ := hw
  subst e1
  cases r
  obtain ⟨its, rv, ht, hz⟩ := I.list hq
  rw [assign_Tuple]
  refine wpAny_bind (wpAny_standAt (rln_unpackL (I.ok.hd hc) ht.isList (by simp [hn, ← hl, rv.length]) hst fun h' hx => ?_))
  have I1 : Inv X pins σ H { s with heap := h' } := I.kept (t' := s.toks) fun b o e => hx b o (Nat.ne_of_lt (Heap.lt_size e)) e
  exact h.run pins _ σ H xs _ Q I1 (by simpa using rv) hw
theorem call_strA : CallR X (.type "str") (fun xs H Q => (∃ a, xs = [.str a] ∧ Q (.str a) H) ∨ ∃ i, xs = [.int i] ∧ i.natAbs.log2 < 1920 ∧ Q (.str (toString i)) H) := by
  intro pins s σ H xs us Q I r h
  rcases h with h | h
  · exact SkE.call_str_str pins s σ H xs us Q I r h
  · exact call_str_int pins s σ H xs us Q I r h
end
end L2
end
section
set_option Elab.async false
set_option linter.all false
set_option maxRecDepth 100000
set_option maxHeartbeats 4000000
namespace Rln
open PySem PySem.Spec PyProof.Rows L2
/-! ### texts -/
def nums : List Int := [-6, -5, -4, -3, -2, -1, 1, 2, 3, 4, 5, 6]
def numT (n : Int) : Str := toString n
theorem num_facts : ∀ n ∈ nums, Txt.startswith (numT n) "-" = decide (n < 0) ∧ (numT n).length ≤ 10 ∧ Txt.isdigit (if n < 0 then cutS (numT n) (some 1) none else numT n) = true ∧ Txt.startswith (if n < 0 then cutS (numT n) (some 1) none else numT n) "0" = false ∧ PySem.intText? (numT n) = some n ∧ n.natAbs.log2 < 1920 := by decide +kernel
theorem nums_of {n : Int} (h0 : n ≠ 0) (h1 : -6 ≤ n) (h2 : n ≤ 6) : n ∈ nums := by
  have : n = -6 ∨ n = -5 ∨ n = -4 ∨ n = -3 ∨ n = -2 ∨ n = -1 ∨ n = 1 ∨ n = 2 ∨ n = 3 ∨ n = 4 ∨ n = 5 ∨ n = 6 := by omega
  rcases this with rfl | rfl | rfl | rfl | rfl | rfl | rfl | rfl | rfl | rfl | rfl | rfl <;> decide
section
variable {P : Program} {w : World} {K : PySem.W.Frag} {mg : Str → Option Value} {base : Heap}
abbrev N_read_number : List Str := ["word", "digits"]
theorem sc_read_number : FnScope N_read_number ["word"] (defScope s_read_number) := ⟨rfl, rfl, rfl, by decide +kernel, rfl, by decide +kernel, by decide +kernel⟩
def spReadN : Sp := fun vs H Q _ => ∃ n : Int, vs = [.str (numT n)] ∧ n ∈ nums ∧ Q (.int n) H
theorem cal_read_number (T : Tx K mg) : Cal P w K mg base 1 "read_number" spReadN [] := by
  refine calD T.f_read_number T.g_read_number sc_read_number (fun vs H Q E h => ?_) (fun _ _ _ _ _ _ us hl => match us, hl with | [_], _ => rfl) (fun cdv A outer s H vs Q E hr h => ?_)
  · obtain ⟨n, rfl, _⟩ := h
    rfl
  · obtain ⟨n, rfl, hn, k⟩ := h
    refine ⟨_, (pss_cons (ps_set (i := 1) sc_read_number.nd rfl (Or.inl rfl) (pe_ifExp (pt_val (pe_m1 F.slot_str_startswith F.type_str_startswith mt_startswith (pv 0) pe_str)) (pe_slice sl_str (pv 0) (po_some pe_int) po_none) (pv 0)))
      (pss_cons (ps_if (PW.pt (pw_or (pt_not (pt_val (pe_m0 F.slot_str_isdigit F.type_str_isdigit mt_isdigit (pv 1) ))) (pw_or1 (PW.pt (pw_and (pt_val (pe_m1 F.slot_str_startswith F.type_str_startswith mt_startswith (pv 1) pe_str)) (pw_and1 (pt_cmpR op_ne (pv 0) pe_str (nomark _)))))))) (pss_one (ps_ret pe_non)) pss_nil)
      (pss_one (ps_ret (pe_callTy call_int_str (by rfl) T.n_int boot_int (pa_cons (pv 0) pa_nil)))))), ?_⟩
    obtain ⟨f1, f2, f3, f4, f5, _⟩ := num_facts n hn
    have sl : (numT n).length ≤ sizeLine := by rw [sizeLine_eq]; omega
    have fin : ∀ d : Str, d = (if n < 0 then cutS (numT n) (some 1) none else numT n) → Txt.isdigit d = true ∧ Txt.startswith d "0" = false := fun d e => by rw [e]; exact ⟨f3, f4⟩
    refine ⟨_, rfl, ⟨_, rfl⟩, _, _, rfl, rfl, _, rfl, ?_⟩
    rw [f1]
    by_cases c : n < 0
    · obtain ⟨g1, g2⟩ := fin (cutS (numT n) (some 1) none) (by rw [if_pos c])
      refine iteTd (decide_eq_true c) ⟨_, rfl, _, rfl, _, rfl, sl, ?_⟩
      refine ⟨_, rfl, ⟨_, rfl⟩, _, rfl, rfl, trivial, _, rfl, ?_⟩
      rw [g1]
      refine iteF ⟨_, rfl, ⟨_, rfl⟩, _, _, rfl, rfl, _, rfl, ?_⟩
      rw [g2]
      exact iteF (iteF ⟨_, rfl, _, n, rfl, f5, by omega, k⟩)
    · obtain ⟨g1, g2⟩ := fin (numT n) (by rw [if_neg c])
      refine iteFd (decide_eq_false c) ⟨_, rfl, ?_⟩
      refine ⟨_, rfl, ⟨_, rfl⟩, _, rfl, rfl, trivial, _, rfl, ?_⟩
      rw [g1]
      refine iteF ⟨_, rfl, ⟨_, rfl⟩, _, _, rfl, rfl, _, rfl, ?_⟩
      rw [g2]
      exact iteF (iteF ⟨_, rfl, _, n, rfl, f5, by omega, k⟩)
end
end Rln
end
section
set_option Elab.async false
set_option linter.all false
set_option maxRecDepth 100000
set_option maxHeartbeats 4000000
namespace Rln
open PySem PySem.Spec PyProof.Rows L2
def partsOf : PD Str → List Str
  | .peg f t => ["peg", wS f, t]
  | .hang f t => ["hang", wS f, t]
  | .take f => ["take", wS f]
  | .look f => ["look", wS f]
  | .fetch f t => ["fetch", wS f, t]
  | .pull n => ["pull", numT n]
  | .walk f s => ["walk", wS f, numT s]
def pText (p : PD Str) : Str := Txt.join " " (partsOf p)
def things4 : List Str := ["a", "sock", "zzzzzzzz", "shirt"]
def plainAll : List (PD Str) := ([false, true].flatMap fun f => (things4.flatMap fun t => [.peg f t, .hang f t, .fetch f t]) ++ [.take f, .look f] ++ nums.map fun s => .walk f s) ++ nums.map fun n => .pull n
theorem things_of {t : Str} (h : goodT t) : t ∈ things4 := by
  rcases h with rfl | rfl | rfl | rfl <;> decide +kernel
theorem plain_in {p : PD Str} (h : pdOk p) : p ∈ plainAll := by
  have hf : ∀ f : Bool, f ∈ ([false, true] : List Bool) := fun f => by cases f <;> decide
  unfold plainAll
  cases p with
  | pull n => exact List.mem_append_right _ (List.mem_map.mpr ⟨n, nums_of h.1 (by have := h.2; omega) (by have := h.2; omega), rfl⟩)
  | peg f t => exact List.mem_append_left _ (List.mem_flatMap.mpr ⟨f, hf f, List.mem_append_left _ (List.mem_append_left _ (List.mem_flatMap.mpr ⟨t, things_of h, by simp⟩))⟩)
  | hang f t => exact List.mem_append_left _ (List.mem_flatMap.mpr ⟨f, hf f, List.mem_append_left _ (List.mem_append_left _ (List.mem_flatMap.mpr ⟨t, things_of h, by simp⟩))⟩)
  | fetch f t => exact List.mem_append_left _ (List.mem_flatMap.mpr ⟨f, hf f, List.mem_append_left _ (List.mem_append_left _ (List.mem_flatMap.mpr ⟨t, things_of h, by simp⟩))⟩)
  | take f => exact List.mem_append_left _ (List.mem_flatMap.mpr ⟨f, hf f, List.mem_append_left _ (List.mem_append_right _ (by simp))⟩)
  | look f => exact List.mem_append_left _ (List.mem_flatMap.mpr ⟨f, hf f, List.mem_append_left _ (List.mem_append_right _ (by simp))⟩)
  | walk f s => exact List.mem_append_left _ (List.mem_flatMap.mpr ⟨f, hf f, List.mem_append_right _ (List.mem_map.mpr ⟨s, nums_of h.1 (by have := h.2; omega) (by have := h.2; omega), rfl⟩)⟩)
theorem plain_facts : ∀ p ∈ plainAll, (pText p).length ≤ 40 ∧ Txt.split (pText p) " " = partsOf p ∧ Txt.partition (pText p) ": " = (pText p, Str.empty, Str.empty) ∧ (10 : Nat) ∉ (pText p).cps.toList ∧ ((partsOf p).map (·.length)).sum ≤ 40 := by decide +kernel
def whatT : Option Str → Str
  | none => "."
  | some t => t
def headT (f : Bool) (wh : Option Str) : Str := Str.empty ++ "when " ++ wS f ++ " " ++ whatT wh
def dText : Deed Str → Str
  | .pl p => pText p
  | .whn f wh p => headT f wh ++ ": " ++ pText p
theorem head_facts : ∀ f ∈ ([false, true] : List Bool), ∀ t ∈ (Str.ofString "." :: things4), Txt.split (Str.empty ++ "when " ++ wS f ++ " " ++ t) " " = ([Str.ofString "when", wS f, t] : List Str) ∧ (58 : Nat) ∉ (Str.empty ++ "when " ++ wS f ++ " " ++ t : Str).cps.toList ∧ (10 : Nat) ∉ (Str.empty ++ "when " ++ wS f ++ " " ++ t : Str).cps.toList ∧ (Str.empty ++ "when " ++ wS f ++ " " ++ t : Str).length ≤ 40 := by decide +kernel
theorem len_app (a b : Str) : (a ++ b).length = a.length + b.length := by
  show (a.cps ++ b.cps).size = a.cps.size + b.cps.size
  exact Array.size_append
def strOf : V → Str
  | .int i => toString i
  | .str x => x
  | _ => Str.empty
theorem parts_eq (p : PD Str) : (pdV p).map strOf = partsOf p := by cases p <;> rfl
section
variable {P : Program} {w : World} {K : PySem.W.Frag} {mg : Str → Option Value} {base : Heap}
abbrev N_deed_text : List Str := ["deed", "part"]
theorem sc_deed_text : FnScope N_deed_text ["deed"] (defScope s_deed_text) := ⟨rfl, rfl, rfl, by decide +kernel, rfl, by decide +kernel, by decide +kernel⟩
def spText0 : Sp := fun vs H Q _ => ∃ a p, vs = [.ref a] ∧ H a = some (.tup (pdV p)) ∧ pdOk p ∧ ∀ H', Same H H' → Q (.str (pText p)) H'
theorem body_text0 (T : Tx K mg) : BodyOk P w K mg base "deed_text" s_deed_text N_deed_text (He.fAd K ("deed_text", none)) 0 spText0 := fun cdv A outer s H vs Q E hr h => by
  obtain ⟨a, p, rfl, ha, hp, k⟩ := h
  obtain ⟨f1, f2, f3, f4, f5⟩ := plain_facts p (plain_in hp)
  refine ⟨_, (pss_cons (ps_if (pt_cmpR op_eq (pe_ix ix_tup (pv 0) pe_int (fun _ _ => rfl)) pe_str (nomark _)) (pss_one (ps_never)) pss_nil)
      (pss_one (ps_ret (pe_join pe_str (pe_lc (own := [("part", 1)]) rfl sc_deed_text.nd (pi_tup (pv 0)) (blkOk_by (N := N_deed_text) (sc := defScope s_deed_text) (own := [("part", 1)]) (by decide +kernel)) (fun _ _ _ _ _ => (pg_name (i := 1) sc_deed_text.nd rfl (Or.inl rfl))) (fun _ _ _ _ _ => pts_nil) (fun _ _ _ _ _ => (pe_callTy call_strA (by rfl) T.n_str boot_str (pa_cons (pv 1) pa_nil)))))))), ?_⟩
  have w0 : atI (pdV p) 0 = some (.str (pdW p)) := by cases p <;> rfl
  have l3 : (pdV p).length ≤ 3 := by cases p <;> simp [pdV]
  have kinds : ∀ u ∈ pdV p, (∃ z, u = .str z) ∨ ∃ i, i ∈ nums ∧ u = .int i := fun u hu => by
    cases p with
    | pull n =>
      rcases List.mem_cons.mp hu with e | hu
      · exact .inl ⟨_, e⟩
      · exact .inr ⟨n, nums_of hp.1 (by have := hp.2; omega) (by have := hp.2; omega), List.mem_singleton.mp hu⟩
    | walk f n =>
      rcases List.mem_cons.mp hu with e | hu
      · exact .inl ⟨_, e⟩
      · rcases List.mem_cons.mp hu with e | hu
        · exact .inl ⟨_, e⟩
        · exact .inr ⟨n, nums_of hp.1 (by have := hp.2; omega) (by have := hp.2; omega), List.mem_singleton.mp hu⟩
    | _ =>
      refine .inl ?_
      simp only [pdV, List.mem_cons, List.not_mem_nil, or_false] at hu
      first
        | (rcases hu with e | e | e <;> exact ⟨_, e⟩)
        | (rcases hu with e | e <;> exact ⟨_, e⟩)
  refine ⟨_, rfl, a, _, _, _, rfl, rfl, SqT.of ha, w0, rfl, _, rfl, iteFd (w_when p) ⟨⟨_, rfl⟩, _, rfl, a, rfl, ⟨_, SqT.of ha⟩, fun D hD => lc_it (walk_tup (xs := pdV p)) (fun i H' => Same H H' ∧ H' D = some (.lst ((((pdV p).take i).map strOf).map V.str))) ⟨Same.new hD, upd_same⟩ (fun i H' _ h => SqT.of (h.1 _ _ ha)) ?_ ?_⟩⟩
  · rintro i x1 H4 H5 hi ⟨e4, hl4⟩ ⟨eH, hx⟩
    have eH2 : H4 = H5 := eH.symm
    subst eH2
    rw [List.getElem?_eq_getElem hi] at hx
    cases hx
    have hk := kinds _ (List.getElem_mem hi)
    have htk := List.take_succ_eq_append_getElem hi
    generalize (pdV p)[i] = u at hk htk
    have len : ((((pdV p).take i).map strOf).map V.str).length < sizeLine := by
      rw [List.length_map, List.length_map, List.length_take, sizeLine_eq]
      omega
    refine ⟨rfl, lcYes (iteT ⟨_, rfl, ?_⟩)⟩
    rcases hk with ⟨z, rfl⟩ | ⟨j, hj, rfl⟩
    · refine .inl ⟨z, rfl, _, hl4, len, e4.put hD, ?_⟩
      rw [upd_same, htk, List.map_append, List.map_append]
      rfl
    · refine .inr ⟨j, rfl, (num_facts j hj).2.2.2.2.2, _, hl4, len, e4.put hD, ?_⟩
      rw [upd_same, htk, List.map_append, List.map_append]
      rfl
  · rintro H4 ⟨e4, hl4⟩
    rw [List.take_length, parts_eq] at hl4
    refine ⟨_, D, partsOf p, rfl, rfl, .inl (SqL.of hl4), ?_, k H4 e4⟩
    have : (partsOf p).length ≤ 3 := by rw [← parts_eq, List.length_map]; exact l3
    show _ + (partsOf p).length * 1 ≤ _
    omega
theorem cal_text0 (T : Tx K mg) : Cal P w K mg base 1 "deed_text" spText0 [] := by
  refine calD T.f_deed_text T.g_deed_text sc_deed_text (fun vs H Q E h => ?_) (fun _ _ _ _ _ _ us hl => match us, hl with | [_], _ => rfl) (body_text0 T)
  obtain ⟨a, p, rfl, _⟩ := h
  rfl
def spText : Sp := fun vs H Q _ => ∃ v x, vs = [v] ∧ DAt H v x ∧ deedOk x ∧ ∀ H', Same H H' → Q (.str (dText x)) H'
theorem cal_deed_text (T : Tx K mg) : Cal P w K mg base 2 "deed_text" spText [] := by
  refine calD T.f_deed_text T.g_deed_text sc_deed_text (fun vs H Q E h => ?_) (fun _ _ _ _ _ _ us hl => match us, hl with | [_], _ => rfl) (fun cdv A outer s H vs Q E hr h => ?_)
  · obtain ⟨a, p, rfl, _⟩ := h
    rfl
  · obtain ⟨v, x, rfl, hx, ho, k⟩ := h
    cases x with
    | pl p =>
      obtain ⟨a, rfl, ha⟩ := hx
      exact body_text0 T cdv A outer s H _ Q E (hr.mono (by decide)) ⟨a, p, rfl, ha, ho, k⟩
    | whn f wh p =>
      obtain ⟨a, b, rfl, ha, hb⟩ := hx
      refine ⟨_, (pss_cons (ps_if (pt_cmpR op_eq (pe_ix ix_tup (pv 0) pe_int (fun _ _ => rfl)) pe_str (nomark _)) (pss_one (ps_ret (pe_joined (PJ.cons pe_str (PJ.cons (pe_fmt (pe_ix ix_tup (pv 0) pe_int (fun _ _ => rfl))) (PJ.cons pe_str (PJ.cons (pe_fmt (pe_ifExp (pt_cmpR op_isN (pe_ix ix_tup (pv 0) pe_int (fun _ _ => rfl)) pe_non (nomark _)) pe_str (pe_ix ix_tup (pv 0) pe_int (fun _ _ => rfl)))) (PJ.cons pe_str (PJ.cons (pe_fmt (C8.pe_c (cal_text0 T) hr (by decide) (by rfl) (pa_cons (pe_ix ix_tup (pv 0) pe_int (fun _ _ => rfl)) pa_nil))) PJ.nil))))))))) pss_nil)
      (pss_one (ps_ret (pe_join pe_str (pe_lc (own := [("part", 1)]) rfl sc_deed_text.nd (pi_tup (pv 0)) (blkOk_by (N := N_deed_text) (sc := defScope s_deed_text) (own := [("part", 1)]) (by decide +kernel)) (fun _ _ _ _ _ => (pg_name (i := 1) sc_deed_text.nd rfl (Or.inl rfl))) (fun _ _ _ _ _ => pts_nil) (fun _ _ _ _ _ => (pe_callTy call_strA (by rfl) T.n_str boot_str (pa_cons (pv 1) pa_nil)))))))), ?_⟩
      obtain ⟨f1, _⟩ := plain_facts p (plain_in ho.2)
      have hf : f ∈ ([false, true] : List Bool) := by cases f <;> decide
      have hwm : whatT wh ∈ (Str.ofString "." :: things4) := by
        cases wh with
        | none => exact List.mem_cons_self ..
        | some t => exact List.mem_cons_of_mem _ (things_of (ho.1 t rfl))
      have hh : (headT f wh).length ≤ 40 := (head_facts f hf _ hwm).2.2.2
      unfold headT at hh
      simp only [len_app] at hh
      have big : 1000 ≤ sizeLine := by rw [sizeLine_eq]; omega
      have l0 : Str.length Str.empty = 0 := rfl
      have lc : (Str.ofString ": ").length = 2 := rfl
      have lsp : (Str.ofString " ").length = 1 := rfl
      have lw : (Str.ofString "when ").length = 5 := rfl
      have ld : (Str.ofString ".").length = 1 := rfl
      refine ⟨_, rfl, a, _, _, _, rfl, rfl, SqT.of ha, rfl, rfl, _, rfl, iteTd (by decide +kernel) ?_⟩
      refine ⟨_, rfl, by simp only [len_app]; omega, ?_⟩
      refine ⟨_, rfl, a, _, _, _, rfl, rfl, SqT.of ha, rfl, .inl ⟨wS f, rfl, by omega, _, rfl, by simp only [len_app]; omega, ?_⟩⟩
      refine ⟨_, rfl, by simp only [len_app]; omega, ?_⟩
      cases wh with
      | none =>
        dsimp only [whatT] at hh
        refine ⟨_, rfl, a, _, _, _, rfl, rfl, SqT.of ha, rfl, rfl, _, rfl, iteT (.inl ⟨Str.ofString ".", rfl, by show 1 ≤ _; omega, _, rfl, by simp only [len_app]; omega, ?_⟩)⟩
        refine ⟨_, rfl, by simp only [len_app]; omega, ?_⟩
        refine ⟨_, rfl, a, _, _, _, rfl, rfl, SqT.of ha, rfl, b, p, rfl, hb, ho.2, fun H1 e1 => .inl ⟨pText p, rfl, by omega, _, rfl, by simp only [len_app]; omega, ?_⟩⟩
        exact k H1 e1
      | some t =>
        dsimp only [whatT] at hh
        refine ⟨_, rfl, a, _, _, _, rfl, rfl, SqT.of ha, rfl, rfl, _, rfl, iteF ⟨_, rfl, a, _, _, _, rfl, rfl, SqT.of ha, rfl, .inl ⟨t, rfl, by omega, _, rfl, by simp only [len_app]; omega, ?_⟩⟩⟩
        refine ⟨_, rfl, by simp only [len_app]; omega, ?_⟩
        refine ⟨_, rfl, a, _, _, _, rfl, rfl, SqT.of ha, rfl, b, p, rfl, hb, ho.2, fun H1 e1 => .inl ⟨pText p, rfl, by omega, _, rfl, by simp only [len_app]; omega, ?_⟩⟩
        exact k H1 e1
end
end Rln
end
section
set_option Elab.async false
set_option linter.all false
set_option maxRecDepth 100000
set_option maxHeartbeats 4000000
namespace Rln
open PySem PySem.Spec PyProof.Rows L2
theorem w_in : ∀ p : PD Str, inV (.str (pdW p)) [.str "pull", .str "walk"] = (match p with | .pull _ => true | .walk _ _ => true | _ => false)
  | .peg .. => (by decide +kernel : inV (.str "peg") [.str "pull", .str "walk"] = false)
  | .hang .. => (by decide +kernel : inV (.str "hang") [.str "pull", .str "walk"] = false)
  | .take .. => (by decide +kernel : inV (.str "take") [.str "pull", .str "walk"] = false)
  | .look .. => (by decide +kernel : inV (.str "look") [.str "pull", .str "walk"] = false)
  | .fetch .. => (by decide +kernel : inV (.str "fetch") [.str "pull", .str "walk"] = false)
  | .pull .. => (by decide +kernel : inV (.str "pull") [.str "pull", .str "walk"] = true)
  | .walk .. => (by decide +kernel : inV (.str "walk") [.str "pull", .str "walk"] = true)
section
variable {P : Program} {w : World} {K : PySem.W.Frag} {mg : Str → Option Value} {base : Heap}
abbrev N_read_plain : List Str := ["line", "words"]
theorem sc_read_plain : FnScope N_read_plain ["line"] (defScope s_read_plain) := ⟨rfl, rfl, rfl, by decide +kernel, rfl, by decide +kernel, by decide +kernel⟩
def spReadP : Sp := fun vs H Q _ => ∃ p : PD Str, vs = [.str (pText p)] ∧ pdOk p ∧ ∀ H' a, Same H H' → H' a = some (.tup (pdV p)) → Q (.ref a) H'
theorem cal_read_plain (T : Tx K mg) : Cal P w K mg base 2 "read_plain" spReadP [] := by
  refine calD T.f_read_plain T.g_read_plain sc_read_plain (fun vs H Q E h => ?_) (fun _ _ _ _ _ _ us hl => match us, hl with | [_], _ => rfl) (fun cdv A outer s H vs Q E hr h => ?_)
  · obtain ⟨n, rfl, _⟩ := h
    rfl
  · obtain ⟨p, rfl, hp, k⟩ := h
    refine ⟨_, (pss_cons (ps_set (i := 1) sc_read_plain.nd rfl (Or.inl rfl) (pe_split (pv 0) pe_str))
      (pss_cons (ps_if (pt_cmpR op_in_seq (pe_ix ix_list (pv 1) pe_int (fun _ _ => rfl)) (pe_tup (pa_cons pe_str (pa_cons pe_str pa_nil))) (by rfl)) (pss_one (ps_ret (pe_tup (StX.pa_star (pe_slice sl_list (pv 1) po_none (po_some (pe_un un_neg pe_int))) (pa_cons (C8.pe_c (cal_read_number T) hr (by decide) (by rfl) (pa_cons (pe_ix ix_list (pv 1) (pe_un un_neg pe_int) (fun _ _ => rfl)) pa_nil)) pa_nil))))) pss_nil)
      (pss_one (ps_ret (pe_callTy call_tuple_of (by rfl) T.n_tuple boot_tuple (pa_cons (pv 1) pa_nil)))))), ?_⟩
    obtain ⟨f1, f2, f3, f4, f5⟩ := plain_facts p (plain_in hp)
    refine ⟨_, rfl, ⟨_, rfl⟩, pText p, " ", rfl, rfl, rfl, by rw [sizeLine_eq]; omega, fun L hL => ?_⟩
    rw [f2]
    have e1 : Same H (upd H L (.lst ((partsOf p).map V.str))) := Same.new hL
    have hL1 : upd H L (.lst ((partsOf p).map V.str)) L = some (.lst ((partsOf p).map V.str)) := upd_same
    generalize upd H L (.lst ((partsOf p).map V.str)) = H1 at e1 hL1
    have w0 : atI ((partsOf p).map V.str) 0 = some (.str (pdW p)) := by cases p <;> rfl
    refine ⟨_, rfl, L, _, _, _, rfl, rfl, SqL.of hL1, w0, by decide, fun q hq => ⟨_, _, rfl, .inr (SqT.of upd_same), rfl, by decide, _, rfl, ?_⟩⟩
    have e2 : Same H1 (upd H1 q (.tup [.str "pull", .str "walk"])) := Same.new hq
    have hL2 := e2 _ _ hL1
    have e12 := e1.trans e2
    generalize upd H1 q (.tup [.str "pull", .str "walk"]) = H2 at e2 hL2 e12
    have plain : (partsOf p).map V.str = pdV p → (∃ l m : Addr, True) → ∀ r, H2 r = none → Q (.ref r) (upd H2 r (.tup ((partsOf p).map V.str))) := fun e _ r hr' => by
      rw [e]
      exact k _ r (e12.trans (Same.new hr')) upd_same
    cases p with
    | pull n =>
      refine iteTd (w_in (.pull n)) ?_
      refine ⟨_, rfl, _, rfl, _, rfl, L, _, rfl, SqL.of hL2, fun S hS => ?_⟩
      have e3 : Same H2 (upd H2 S (.lst (cutV ((partsOf (.pull n)).map V.str) none (some (-1))))) := Same.new hS
      have hL3 := e3 _ _ hL2
      have hn : n ∈ nums := nums_of hp.1 (by have := hp.2; omega) (by have := hp.2; omega)
      refine ⟨S, _, rfl, .inr (SqL.of upd_same), _, rfl, _, rfl, L, _, _, _, rfl, rfl, SqL.of hL3, rfl, n, rfl, hn, by show 2 ≤ sizeLine; decide, fun r hr' => ?_⟩
      exact k _ r ((e12.trans e3).trans (Same.new hr')) upd_same
    | walk f n =>
      refine iteTd (w_in (.walk f n)) ?_
      refine ⟨_, rfl, _, rfl, _, rfl, L, _, rfl, SqL.of hL2, fun S hS => ?_⟩
      have e3 : Same H2 (upd H2 S (.lst (cutV ((partsOf (.walk f n)).map V.str) none (some (-1))))) := Same.new hS
      have hL3 := e3 _ _ hL2
      have hn : n ∈ nums := nums_of hp.1 (by have := hp.2; omega) (by have := hp.2; omega)
      refine ⟨S, _, rfl, .inr (SqL.of upd_same), _, rfl, _, rfl, L, _, _, _, rfl, rfl, SqL.of hL3, rfl, n, rfl, hn, by show 3 ≤ sizeLine; decide, fun r hr' => ?_⟩
      exact k _ r ((e12.trans e3).trans (Same.new hr')) upd_same
    | _ => exact iteFd (w_in _) ⟨_, rfl, L, _, rfl, .inl ⟨SqL.of hL2, plain rfl ⟨0, 0, trivial⟩⟩⟩
end
end Rln
end
section
set_option Elab.async false
set_option linter.all false
set_option maxRecDepth 100000
set_option maxHeartbeats 4000000
namespace Rln
open PySem PySem.Spec PyProof.Rows L2
theorem dText_len {x : Deed Str} (h : deedOk x) : (dText x).length ≤ 90 := by
  cases x with
  | pl p => have := (plain_facts p (plain_in h)).1; show (pText p).length ≤ 90; omega
  | whn f wh p =>
    have hf : f ∈ ([false, true] : List Bool) := by cases f <;> decide
    have hwm : whatT wh ∈ (Str.ofString "." :: things4) := by
      cases wh with
      | none => exact List.mem_cons_self ..
      | some t => exact List.mem_cons_of_mem _ (things_of (h.1 t rfl))
    have hh : (headT f wh).length ≤ 40 := (head_facts f hf _ hwm).2.2.2
    have := (plain_facts p (plain_in h.2)).1
    have lc : (Str.ofString ": ").length = 2 := rfl
    show (headT f wh ++ ": " ++ pText p).length ≤ 90
    rw [len_app, len_app]
    omega
theorem dText_sum : ∀ ds : List (Deed Str), (∀ x ∈ ds, deedOk x) → ((ds.map dText).map (·.length)).sum ≤ 90 * ds.length
  | [], _ => Nat.le_refl _
  | x :: ds, h => by
    have := dText_sum ds fun y hy => h y (List.mem_cons_of_mem _ hy)
    have := dText_len (h x (List.mem_cons_self ..))
    simp only [List.map_cons, List.sum_cons, List.length_cons]
    omega
def plText (ds : List (Deed Str)) : Str := Txt.join "\n" (ds.map dText)
section
variable {P : Program} {w : World} {K : PySem.W.Frag} {mg : Str → Option Value} {base : Heap}
abbrev N_plan_text : List Str := ["plan", "deed"]
theorem sc_plan_text : FnScope N_plan_text ["plan"] (defScope s_plan_text) := ⟨rfl, rfl, rfl, by decide +kernel, rfl, by decide +kernel, by decide +kernel⟩
def spPlText (K : PySem.W.Frag) : Sp := fun vs H Q _ => ∃ v ds, vs = [v] ∧ PlanAt K H v ds ∧ (∀ x ∈ ds, deedOk x) ∧ ds.length ≤ 12 ∧ ∀ H', Same H H' → Q (.str (plText ds)) H'
theorem cal_plan_text (T : Tx K mg) : Cal P w K mg base 3 "plan_text" (spPlText K) [] := by
  refine calD T.f_plan_text T.g_plan_text sc_plan_text (fun vs H Q E h => ?_) (fun _ _ _ _ _ _ us hl => match us, hl with | [_], _ => rfl) (fun cdv A outer s H vs Q E hr h => ?_)
  · obtain ⟨v, ds, rfl, _⟩ := h
    rfl
  · obtain ⟨v, ds, rfl, hp, ho, hl, k⟩ := h
    refine ⟨_, (pss_one (ps_ret (pe_join pe_str (pe_lc (own := [("deed", 1)]) rfl sc_plan_text.nd (pi_tup (C8.pe_mt0 (met_deeds T) hr (by decide) (pv 0))) (blkOk_by (N := N_plan_text) (sc := defScope s_plan_text) (own := [("deed", 1)]) (by decide +kernel)) (fun _ _ _ _ _ => (pg_name (i := 1) sc_plan_text.nd rfl (Or.inl rfl))) (fun _ _ _ _ _ => pts_nil) (fun _ _ _ _ _ => (C8.pe_c (cal_deed_text T) hr (by decide) (by rfl) (pa_cons (pv 1) pa_nil))))))), ?_⟩
    obtain ⟨p, dx, z, rfl, hp0, hz⟩ := id hp
    refine ⟨⟨_, rfl⟩, _, rfl, p, dx, _, rfl, hp0, rfl, _, ds, rfl, hp, fun u hu => ?_⟩
    obtain ⟨a, us, rfl, hs, hi⟩ := hu.ix
    refine ⟨a, rfl, ⟨_, hs⟩, fun D hD => lc_it (walk_tup (xs := us)) (fun i H' => Same H H' ∧ H' D = some (.lst (((ds.take i).map dText).map V.str))) ⟨Same.new hD, upd_same⟩ (fun i H' _ h => h.1.sqt hs) ?_ ?_⟩
    · rintro i x1 H4 H5 hi' ⟨e4, hl4⟩ ⟨eH, hx⟩
      have eH2 : H4 = H5 := eH.symm
      subst eH2
      have hid : i < ds.length := hi.1 ▸ hi'
      obtain ⟨du, hdu, hd⟩ := hi.2 i ds[i] (List.getElem?_eq_getElem hid)
      have ex : du = x1 := Option.some.inj (hdu.symm.trans hx)
      subst ex
      refine ⟨rfl, lcYes ⟨_, rfl, du, ds[i], rfl, hd.mono e4, ho _ (List.getElem_mem hid), fun H6 e6 => ⟨_, e6 _ _ hl4, ?_, (e4.trans e6).put hD, ?_⟩⟩⟩
      · rw [List.length_map, List.length_map, List.length_take, sizeLine_eq]
        omega
      · rw [upd_same, List.take_succ_eq_append_getElem hid, List.map_append, List.map_append]
        rfl
    · rintro H4 ⟨e4, hl4⟩
      rw [hi.1, List.take_length] at hl4
      refine ⟨_, D, ds.map dText, rfl, rfl, .inl (SqL.of hl4), ?_, k H4 e4⟩
      have h1 := dText_sum ds ho
      have h2 : (ds.map dText).length ≤ 12 := by rw [List.length_map]; exact hl
      have big : 2000 ≤ sizeLine := by rw [sizeLine_eq]; omega
      show _ + (ds.map dText).length * 1 ≤ _
      omega
end
end Rln
end
section
set_option Elab.async false
set_option linter.all false
set_option maxRecDepth 100000
set_option maxHeartbeats 4000000
namespace Rln
open PySem PySem.Spec PyProof.Rows L2
section
variable {P : Program} {w : World} {K : PySem.W.Frag} {mg : Str → Option Value} {base : Heap}
abbrev N_read_deed : List Str := ["line", "head", "parted", "rest", "words", "first", "window", "what"]
theorem sc_read_deed : FnScope N_read_deed ["line"] (defScope s_read_deed) := ⟨rfl, rfl, rfl, by decide +kernel, rfl, by decide +kernel, by decide +kernel⟩
def spReadD : Sp := fun vs H Q _ => ∃ x : Deed Str, vs = [.str (dText x)] ∧ deedOk x ∧ ∀ H' v, Same H H' → DAt H' v x → Q v H'
theorem cal_read_deed (T : Tx K mg) : Cal P w K mg base 3 "read_deed" spReadD [] := by
  refine calD T.f_read_deed T.g_read_deed sc_read_deed (fun vs H Q E h => ?_) (fun _ _ _ _ _ _ us hl => match us, hl with | [_], _ => rfl) (fun cdv A outer s H vs Q E hr h => ?_)
  · obtain ⟨n, rfl, _⟩ := h
    rfl
  · obtain ⟨x, rfl, hx, k⟩ := h
    refine ⟨_, (pss_cons (ps_asg (pe_partition (pv 0) pe_str) (pg_tup rfl (pgs_cons (pg_name (i := 1) sc_read_deed.nd rfl (Or.inl rfl)) (pgs_cons (pg_name (i := 2) sc_read_deed.nd rfl (Or.inl rfl)) (pgs_cons (pg_name (i := 3) sc_read_deed.nd rfl (Or.inl rfl)) pgs_nil)))))
      (pss_cons (ps_if (pt_not (pt_truth (pv 2) (by intro _; rfl))) (pss_one (ps_ret (C8.pe_c (cal_read_plain T) hr (by decide) (by rfl) (pa_cons (pv 0) pa_nil)))) pss_nil)
      (pss_cons (ps_set (i := 4) sc_read_deed.nd rfl (Or.inl rfl) (pe_split (pv 1) pe_str))
      (pss_cons (ps_if (pt_cmpR op_ne (pe_callB call_len_seq (by rfl) T.n_len (by decide +kernel) (pa_cons (pv 4) pa_nil)) pe_int (nomark _)) (pss_one (ps_never)) pss_nil)
      (pss_cons (ps_asg (pv 4) (pg_tupL (n := 3) rfl (pgs_cons (pg_name (i := 5) sc_read_deed.nd rfl (Or.inl rfl)) (pgs_cons (pg_name (i := 6) sc_read_deed.nd rfl (Or.inl rfl)) (pgs_cons (pg_name (i := 7) sc_read_deed.nd rfl (Or.inl rfl)) pgs_nil)))))
      (pss_one (ps_ret (pe_tup (pa_cons (pv 5) (pa_cons (pv 6) (pa_cons (pe_ifExp (pt_cmpR op_eq (pv 7) pe_str (nomark _)) pe_non (pv 7)) (pa_cons (C8.pe_c (cal_read_plain T) hr (by decide) (by rfl) (pa_cons (pv 3) pa_nil)) pa_nil)))))))))))), ?_⟩
    cases x with
    | pl p =>
      have f := plain_facts p (plain_in hx)
      refine ⟨_, rfl, ⟨_, rfl⟩, pText p, ": ", rfl, rfl, rfl, by have := f.1; rw [sizeLine_eq]; omega, fun q hq => ?_⟩
      rw [f.2.2.1]
      refine ⟨q, _, rfl, SqT.of upd_same, rfl, _, _, rfl, _, _, rfl, _, _, rfl, rfl, ?_⟩
      refine ⟨_, rfl, false, ⟨by show 0 ≤ _; omega, rfl⟩, iteT ⟨_, rfl, p, rfl, hx, fun H1 a e1 ha => k H1 _ ((Same.new hq).trans e1) ⟨a, rfl, ha⟩⟩⟩
    | whn f wh p =>
      have hf : f ∈ ([false, true] : List Bool) := by cases f <;> decide
      have hwm : whatT wh ∈ (Str.ofString "." :: things4) := by
        cases wh with
        | none => exact List.mem_cons_self ..
        | some t => exact List.mem_cons_of_mem _ (things_of (hx.1 t rfl))
      have g := head_facts f hf _ hwm
      have lD := dText_len hx
      have cut : Txt.partition (dText (.whn f wh p)) ": " = (headT f wh, Str.ofString ": ", pText p) := TL.partition_app (y := Str.ofString ": ") (s := 58) (S := [32]) rfl g.2.1
      refine ⟨_, rfl, ⟨_, rfl⟩, _, ": ", rfl, rfl, rfl, by rw [sizeLine_eq]; omega, fun q hq => ?_⟩
      rw [cut]
      refine ⟨q, _, rfl, SqT.of upd_same, rfl, _, _, rfl, _, _, rfl, _, _, rfl, rfl, ?_⟩
      refine ⟨_, rfl, true, ⟨by show 2 ≤ _; rw [sizeLine_eq]; omega, rfl⟩, iteF ?_⟩
      have e0 : Same H (upd H q (.tup [.str (headT f wh), .str (Str.ofString ": "), .str (pText p)])) := Same.new hq
      refine ⟨_, rfl, ⟨_, rfl⟩, headT f wh, " ", rfl, rfl, rfl, by have : (headT f wh).length ≤ 40 := g.2.2.2; rw [sizeLine_eq]; omega, fun L hL => ?_⟩
      have cs : Txt.split (headT f wh) " " = [Str.ofString "when", wS f, whatT wh] := g.1
      rw [cs]
      generalize upd H q (.tup [.str (headT f wh), .str (Str.ofString ": "), .str (pText p)]) = H1 at e0 hL
      have e1 : Same H1 (upd H1 L (.lst (List.map V.str [Str.ofString "when", wS f, whatT wh]))) := Same.new hL
      have hL1 : upd H1 L (.lst (List.map V.str [Str.ofString "when", wS f, whatT wh])) L = some (.lst (List.map V.str [Str.ofString "when", wS f, whatT wh])) := upd_same
      generalize upd H1 L (.lst (List.map V.str [Str.ofString "when", wS f, whatT wh])) = H2 at e1 hL1
      refine ⟨_, rfl, L, _, rfl, .inl (SqL.of hL1), rfl, false, rfl, iteF ?_⟩
      refine ⟨_, rfl, L, _, rfl, SqL.of hL1, rfl, _, _, rfl, _, _, rfl, _, _, rfl, rfl, ?_⟩
      have e2 := e0.trans e1
      have fin : ∀ u, u = whatV wh → ∀ H3 a, Same H2 H3 → H3 a = some (.tup (pdV p)) → ∀ r, H3 r = none → Q (.ref r) (upd H3 r (.tup [.str "when", .str (wS f), u, .ref a])) := fun u eu H3 a e3 ha r hr => by
        subst eu
        exact k _ _ ((e2.trans e3).trans (Same.new hr)) ⟨r, a, rfl, upd_same, Same.new hr _ _ ha⟩
      have z4 : 4 ≤ sizeLine := by decide
      have nd : ∀ t, goodT t → decide (V.str t = V.str (Str.ofString ".")) = false := fun t ht => by
        rcases ht with rfl | rfl | rfl | rfl <;> decide +kernel
      cases wh with
      | none => exact ⟨_, rfl, _, rfl, _, rfl, rfl, _, rfl, iteT ⟨_, rfl, p, rfl, hx.2, fun H3 a e3 ha => ⟨z4, fun r hr => fin _ rfl H3 a e3 ha r hr⟩⟩⟩
      | some t => exact ⟨_, rfl, _, rfl, _, rfl, rfl, _, rfl, iteFd (nd t (hx.1 t rfl)) ⟨_, rfl, _, rfl, p, rfl, hx.2, fun H3 a e3 ha => ⟨z4, fun r hr => fin _ rfl H3 a e3 ha r hr⟩⟩⟩
end
end Rln
end
section
set_option Elab.async false
set_option linter.all false
set_option maxRecDepth 100000
set_option maxHeartbeats 4000000
namespace Rln
open PySem PySem.Spec PyProof.Rows L2
theorem plain_pos : ∀ p ∈ plainAll, 0 < (pText p).length := by decide +kernel
theorem dText_pos {x : Deed Str} (h : deedOk x) : 0 < (dText x).length := by
  cases x with
  | pl p => exact plain_pos p (plain_in h)
  | whn f wh p =>
    have := plain_pos p (plain_in h.2)
    show 0 < (headT f wh ++ ": " ++ pText p).length
    rw [len_app]
    omega
theorem dText_line {x : Deed Str} (h : deedOk x) : (10 : Nat) ∉ TL.tl (dText x) := by
  cases x with
  | pl p => exact (plain_facts p (plain_in h)).2.2.2.1
  | whn f wh p =>
    have hf : f ∈ ([false, true] : List Bool) := by cases f <;> decide
    have hwm : whatT wh ∈ (Str.ofString "." :: things4) := by
      cases wh with
      | none => exact List.mem_cons_self ..
      | some t => exact List.mem_cons_of_mem _ (things_of (h.1 t rfl))
    have h1 := (head_facts f hf _ hwm).2.2.1
    have h2 := (plain_facts p (plain_in h.2)).2.2.2.1
    have h3 : (10 : Nat) ∉ TL.tl (Str.ofString ": ") := by decide
    show (10 : Nat) ∉ TL.tl (headT f wh ++ ": " ++ pText p)
    rw [TL.tl_append, TL.tl_append, List.mem_append, List.mem_append]
    rintro ((z | z) | z)
    · exact h1 z
    · exact h3 z
    · exact h2 z
theorem plText_split {ds : List (Deed Str)} (ho : ∀ x ∈ ds, deedOk x) (hne : ds ≠ []) : Txt.split (plText ds) "\n" = ds.map dText :=
  TL.split_join (y := Str.ofString "\n") (s := 10) (S := []) rfl (by decide +kernel) (fun e => hne (List.map_eq_nil_iff.mp e)) fun p hp => by
    obtain ⟨x, hx, rfl⟩ := List.mem_map.mp hp
    exact dText_line (ho x hx)
theorem plText_ne {ds : List (Deed Str)} (ho : ∀ x ∈ ds, deedOk x) (hne : ds ≠ []) : plText ds ≠ Str.ofString "" := fun e => by
  have h := plText_split ho hne
  rw [e] at h
  have h2 : Txt.split (Str.ofString "") "\n" = [Str.ofString ""] := by decide +kernel
  have h := h2.symm.trans h
  cases ds with
  | nil => exact hne rfl
  | cons x ds =>
    rw [List.map_cons] at h
    have := dText_pos (ho x (List.mem_cons_self ..))
    rw [← (List.cons.inj h).1] at this
    exact absurd this (by decide)
theorem joinL_len (S : List Nat) : ∀ ps : List (List Nat), (TL.joinL S ps).length ≤ (ps.map (·.length)).sum + ps.length * S.length
  | [] => Nat.zero_le _
  | [p] => by
    show p.length ≤ p.length + 0 + (0 + 1) * S.length
    omega
  | p :: q :: r => by
    have ih := joinL_len S (q :: r)
    show (p ++ (S ++ TL.joinL S (q :: r))).length ≤ _
    rw [List.length_append, List.length_append]
    simp only [List.map_cons, List.sum_cons, List.length_cons, Nat.add_mul, Nat.one_mul] at ih ⊢
    omega
theorem tl_len (x : Str) : (TL.tl x).length = x.length := Array.length_toList
theorem join_len (y : Str) (ps : List Str) : (Txt.join y ps).length ≤ (ps.map (·.length)).sum + ps.length * y.length := by
  rw [TL.join_eq, ← tl_len, TL.tl_join]
  have := joinL_len (TL.tl y) (ps.map TL.tl)
  rw [List.map_map, List.length_map, tl_len] at this
  have e : (List.length ∘ TL.tl) = fun (x : Str) => x.length := funext tl_len
  rw [e] at this
  exact this
theorem DAt.put {H H' : Hp} {D : Addr} {us : List V} {v : V} {x : Deed Str} (h : DAt H v x) (hl : H D = some (.lst us)) (e : Sx D H H') : DAt H' v x := by
  have ne : ∀ {a : Addr} {xs : List V}, H a = some (.tup xs) → a ≠ D := fun {a xs} ha z => by
    rw [z, hl] at ha
    cases ha
  cases x with
  | pl p =>
    obtain ⟨a, rfl, h1⟩ := h
    exact ⟨a, rfl, e _ _ (ne h1) h1⟩
  | whn f wh p =>
    obtain ⟨a, b, rfl, h1, h2⟩ := h
    exact ⟨a, b, rfl, e _ _ (ne h1) h1, e _ _ (ne h2) h2⟩
theorem IxD.put {H H' : Hp} {D : Addr} {vs us : List V} {ds : List (Deed Str)} (h : IxD H us ds) (hl : H D = some (.lst vs)) (e : Sx D H H') : IxD H' us ds := ⟨h.1, fun i x hx => by
  obtain ⟨u, h1, h2⟩ := h.2 i x hx
  exact ⟨u, h1, h2.put hl e⟩⟩
theorem sx_upd {H : Hp} {D : Addr} {o : HO} : Sx D H (upd H D o) := fun b u n z => by
  rw [upd_ne n]
  exact z
section
variable {P : Program} {w : World} {K : PySem.W.Frag} {mg : Str → Option Value} {base : Heap}
/-- Plan() read: what is behind it -/
theorem plan_make0 (T : Tx K mg) {H : Hp} {Q : VK} (k : ∀ H' r, Same H H' → PlanAt K H' r [] → Q r H') :
    ∀ x dx, H x = none → H dx = none → dx ≠ x → spPlanI K (.ref x :: ([] ++ [.ref (He.dflAt ("Plan", some "__init__") 0 K)])) (upd (upd H dx (.own x)) x (.ins (cPlan K) dx [])) (fun v H2 => v = .non ∧ Q (.ref x) H2) C8.E0 :=
  plan_make (v := .ref (He.dflAt ("Plan", some "__init__") 0 K)) (ds := []) ⟨_, [], rfl, T.d_Plan0 H, rfl, fun i x hx => nomatch hx⟩ (fun y hy => nomatch hy) (Nat.zero_le _) k
abbrev N_read_plan : List Str := ["text", "deeds", "line", "deed"]
theorem sc_read_plan : FnScope N_read_plan ["text"] (defScope s_read_plan) := ⟨rfl, rfl, rfl, by decide +kernel, rfl, by decide +kernel, by decide +kernel⟩
def spReadPl (K : PySem.W.Frag) : Sp := fun vs H Q _ => ∃ ds, vs = [.str (plText ds)] ∧ (∀ x ∈ ds, deedOk x) ∧ ds.length ≤ 12 ∧ ∀ H' r, Same H H' → PlanAt K H' r ds → Q r H'
theorem cal_read_plan (T : Tx K mg) : Cal P w K mg base 7 "read_plan" (spReadPl K) [] := by
  refine calD T.f_read_plan T.g_read_plan sc_read_plan (fun vs H Q E h => ?_) (fun _ _ _ _ _ _ us hl => match us, hl with | [_], _ => rfl) (fun cdv A outer s H vs Q E hr h => ?_)
  · obtain ⟨ds, rfl, _⟩ := h
    rfl
  · obtain ⟨ds, rfl, ho, hl, k⟩ := h
    refine ⟨_, (pss_cons (ps_if (pt_not (pt_val (pe_callB call_isi (by rfl) T.n_isinstance (by decide +kernel) (pa_cons (pv 0) (pa_cons (pe_bltn (v := .ty "str") (by rfl) T.n_str boot_str rfl) pa_nil))))) pss_never pss_nil)
      (pss_cons (ps_if (pt_cmpR op_eq (pv 0) pe_str (nomark _)) (pss_one (ps_ret (pe_mk0 (mak_Plan0 T) hr (by decide) (by rfl)))) pss_nil)
      (pss_cons (ps_setLc (i := 1) (own := [("line", 2)]) rfl sc_read_plan.nd rfl rfl (sw_true rfl rfl rfl (by decide +kernel)) (pi_list (pe_split (pv 0) pe_str)) (blkOk_by (N := N_read_plan) (sc := defScope s_read_plan) (own := [("line", 2)]) (by decide +kernel)) (fun _ _ _ _ _ => (pg_name (i := 2) sc_read_plan.nd rfl (Or.inl rfl))) (fun _ _ _ _ _ => pts_nil) (fun _ _ _ _ _ => (C8.pe_c (cal_read_deed T) hr (by decide) (by rfl) (pa_cons (pv 2) pa_nil))))
      (pss_cons (ps_for PassesOwn.never rfl (pi_enum (by rfl) T.n_enumerate (pa_cons (pv 1) pa_nil)) (pg_tup rfl (pgs_cons (pg_name (i := 2) sc_read_plan.nd rfl (Or.inl rfl)) (pgs_cons (pg_name (i := 3) sc_read_plan.nd rfl (Or.inl rfl)) pgs_nil))) (pss_one (ps_if (pt_not (pt_val (C8.pe_c (cal_is_deed T) hr (by decide) (by rfl) (pa_cons (pv 3) pa_nil)))) pss_never pss_nil)))
      (pss_cons (ps_if (pt_cmpR op_gt (pe_callB call_len_seq (by rfl) T.n_len (by decide +kernel) (pa_cons (pv 1) pa_nil)) (C8.pe_gc (by rfl) T.i_MOST_DEEDS) (nomark _)) pss_never pss_nil)
      (pss_one (ps_ret (C8.pe_mk (mak_Plan1 T) hr (by decide) (by rfl) (pa_cons (pe_callTy call_tuple_of (by rfl) T.n_tuple boot_tuple (pa_cons (pv 1) pa_nil)) pa_nil))))))))), ?_⟩
    refine ⟨_, rfl, _, _, _, _, _, rfl, .ty _, ty_flat rfl, k_str rfl, _, rfl, iteF ?_⟩
    refine ⟨_, rfl, rfl, _, rfl, ?_⟩
    by_cases c : ds = []
    · subst c
      refine iteTd (by decide +kernel) ?_
      exact plan_make0 T k
    refine iteFd (decide_eq_false fun e => plText_ne ho c (V.str.inj e)) ?_
    have lb : (plText ds).length + 2 ≤ sizeLine := by
      have h1 := join_len "\n" (ds.map dText)
      have h2 := dText_sum ds ho
      rw [List.length_map] at h1
      have e1 : (Str.ofString "\n").length = 1 := rfl
      show (Txt.join "\n" (ds.map dText)).length + 2 ≤ sizeLine
      rw [sizeLine_eq]
      rw [e1] at h1
      omega
    refine ⟨_, rfl, ⟨_, rfl⟩, plText ds, "\n", rfl, rfl, rfl, lb, fun L hL => ?_⟩
    rw [plText_split ho c]
    have e1 : Same H (upd H L (.lst ((ds.map dText).map V.str))) := Same.new hL
    have hL1 : upd H L (.lst ((ds.map dText).map V.str)) L = some (.lst ((ds.map dText).map V.str)) := upd_same
    generalize upd H L (.lst ((ds.map dText).map V.str)) = H1 at e1 hL1
    refine ⟨L, rfl, ⟨_, SqL.of hL1⟩, fun D hD => lc_it (walk_list (xs := (ds.map dText).map V.str)) (fun i H' => Same H1 H' ∧ ∃ us, H' D = some (.lst us) ∧ IxD H' us (ds.take i)) ⟨Same.new hD, [], upd_same, rfl, fun i x hx => by cases hx⟩ (fun i H' _ h => SqL.of (h.1 _ _ hL1)) ?_ ?_⟩
    · rintro i x1 H4 H5 hi ⟨e4, us, hl4, ix⟩ ⟨eH, hx⟩
      have eH2 : H4 = H5 := eH.symm
      subst eH2
      have hid : i < ds.length := by rw [List.length_map, List.length_map] at hi; exact hi
      have ex : V.str (dText ds[i]) = x1 := by
        rw [List.getElem?_map, List.getElem?_map, List.getElem?_eq_getElem hid] at hx
        exact Option.some.inj hx
      subst ex
      have lu : us.length = i := by
        have := ix.1
        rw [List.length_take] at this
        omega
      refine ⟨rfl, lcYes ⟨_, rfl, ds[i], rfl, ho _ (List.getElem_mem hid), fun H6 v e6 dv => ⟨us, e6 _ _ hl4, ?_, (e4.trans e6).put hD, us ++ [v], upd_same, ?_⟩⟩⟩
      · rw [lu, sizeLine_eq]
        omega
      · rw [List.take_succ_eq_append_getElem hid]
        exact ((ix.mono e6).put (e6 _ _ hl4) sx_upd).app (IxD.one (dv.put (e6 _ _ hl4) sx_upd))
    · rintro H4 ⟨e4, us, hl4, ix⟩
      rw [List.length_map, List.length_map, List.take_length] at ix
      have e04 := e1.trans e4
      have lu := ix.1
      refine ⟨_, rfl, D, us, rfl, SqL.of hl4, for_it (walk_enum (xs := us)) (fun i σ' H' => Same H4 H' ∧ ∃ x1 x2, σ' = [some (.str (plText ds)), some (.ref D), x1, x2]) ⟨fun _ _ z => z, _, _, rfl⟩ (fun i σ' H' _ h => SqL.of (h.1 _ _ hl4)) ?_ ?_⟩
      · rintro i x1 σ' H5 H6 hi ⟨e5, y1, y2, rfl⟩ ⟨t, x2, yy, rfl, ht, rfl, hx2, hy2⟩
        cases hx2
        have hid : i < ds.length := by omega
        obtain ⟨du, hdu, hdx⟩ := ix.2 i ds[i] (List.getElem?_eq_getElem hid)
        dsimp only at hy2
        have ey : du = yy := Option.some.inj (hdu.symm.trans hy2)
        subst ey
        have e45 : Same H5 (upd H5 t (.tup [.int (i : Nat), du])) := Same.new ht
        refine ⟨t, _, rfl, SqT.of upd_same, rfl, _, _, rfl, _, _, rfl, rfl, ?_⟩
        exact ⟨_, rfl, du, ds[i], rfl, (hdx.mono e5).mono e45, ho _ (List.getElem_mem hid), fun H7 e7 => ⟨_, rfl, iteF ⟨(e5.trans e45).trans e7, _, _, rfl⟩⟩⟩
      · rintro σ' H5 ⟨e5, y1, y2, rfl⟩
        have hl5 := e5 _ _ hl4
        refine ⟨_, rfl, D, us, rfl, .inl (SqL.of hl5), _, _, rfl, rfl, _, rfl, iteFd (decide_eq_false (by omega)) ?_⟩
        refine ⟨_, rfl, D, us, rfl, .inl ⟨SqL.of hl5, fun r hr' => ?_⟩⟩
        have e6 : Same H5 (upd H5 r (.tup us)) := Same.new hr'
        exact plan_make (((ix.mono e5).mono e6).ds (SqT.of upd_same)) ho hl fun H' r' e' h => k H' r' (((e04.trans e5).trans e6).trans e') h
end
end Rln
end
section
set_option Elab.async false
set_option linter.all false
set_option maxRecDepth 100000
set_option maxHeartbeats 4000000
namespace Rln
open PySem PySem.Spec PyProof.Rows L2
/-! the law's identities, in plain Lean -/
theorem runL_take (d : Int) : ∀ (ds : List (Deed Str)) (s : LW Str) (n : Nat), (runL d s (ds.take n)).2 = (runL d s ds).2.take n
  | [], s, n => by rw [List.take_nil]; show [] = List.take n []; rw [List.take_nil]
  | x :: ds, s, 0 => by rw [List.take_zero, List.take_zero]; rfl
  | x :: ds, s, n + 1 => by
    rw [List.take_succ_cons, runL, runL, List.take_succ_cons, runL_take d ds]
theorem tL_take {d : Int} {ds : List (Deed Str)} {k : Nat} : tL d (ds.take (k + 1)) k = tL d ds k := by
  unfold tL toldL
  rw [runL_take, List.getElem?_take, if_pos (by omega)]
theorem tL_last (d : Int) (ds : List (Deed Str)) (x : Deed Str) : tL d (ds ++ [x]) ds.length = (tellL d (workL d ds) x).2 := by
  unfold tL toldL
  rw [runL_snoc]
  show (((runL d lw0 ds).2 ++ [(tellL d (runL d lw0 ds).1 x).2])[ds.length]?).getD .non = _
  rw [List.getElem?_append_right (by rw [runL_len]; exact Nat.le_refl _), runL_len, Nat.sub_self]
  rfl
theorem showAt_eq (ds : List (Deed Str)) (k : Nat) (uw : V) (d : Int) : showAt ds k uw d = decide (valT (tL d ds k) = uw) := by
  unfold showAt
  rw [tL_take]
theorem look_val (o wh : Option Str) (s : LW Str) : decide (valT (match o with
    | none => (s, TV.non)
    | some t => (s, TV.str t) : LW Str × TV Str).2 = whatV wh) = decide (o = wh) := by
  cases o with
  | none => cases wh <;> simp [valT, whatV]
  | some t => cases wh <;> simp [valT, whatV]
theorem rest_eq (ds : List (Deed Str)) (f : Bool) (wh : Option Str) (d : Int) : showAt (ds ++ [.pl (.look f)]) ds.length (whatV wh) d = decide (thingL d (workL d ds) f = wh) := by
  rw [showAt_eq, tL_last]
  have e : tellL d (workL d ds) (Deed.pl (PD.look f)) = match thingL d (workL d ds) f with
    | none => (workL d ds, TV.non)
    | some t => (workL d ds, TV.str t) := by
      dsimp only [tellL, tellPL]
      cases thingL d (workL d ds) f <;> rfl
  rw [e]
  exact look_val (thingL d (workL d ds) f) wh (workL d ds)
/-- what a deed fails at is where it tells False or None -/
theorem failAt_eq {ds : List (Deed Str)} {k : Nat} {x : Deed Str} (h : ds[k]? = some x) (d : Int) : failAt ds k d = failB x (valT (tL d ds k)) := by
  unfold failAt
  rw [h]
  dsimp only
  rw [tL_take]
theorem fail_look {ds : List (Deed Str)} {k : Nat} {x : Deed Str} (h : ds[k]? = some x) (hn : failK x = false) (d : Int) : failAt ds k d = false := by
  rw [failAt_eq h]
  unfold failB
  rw [hn, Bool.false_and]
theorem fail_show {ds : List (Deed Str)} {k : Nat} {x : Deed Str} (h : ds[k]? = some x) (hn : failK x = true) (d : Int) : failAt ds k d = (showAt ds k (.bl false) d || showAt ds k .non d) := by
  rw [failAt_eq h, showAt_eq, showAt_eq]
  unfold failB
  rw [hn, Bool.true_and, Bool.or_comm]
theorem carry_eq (ds : List (Deed Str)) (d : Int) : carries ds d = !((List.range ds.length).any fun k => failAt ds k d) := by
  unfold carries
  congr 1
  rw [Bool.eq_iff_iff, List.any_eq_true, List.any_eq_true]
  have e : ∀ i, i ∈ List.range ds.length → failI ds (fun i => valT (tL d ds i)) i = failAt ds i d := fun i hi => by
    have hi := List.mem_range.mp hi
    rw [failAt_eq (List.getElem?_eq_getElem hi)]
    unfold failI
    rw [List.getElem?_eq_getElem hi]
  constructor
  · rintro ⟨i, hi, z⟩
    exact ⟨i, hi, (e i hi).symm.trans z⟩
  · rintro ⟨i, hi, z⟩
    exact ⟨i, hi, (e i hi).trans z⟩
theorem work_ok {ds : List (Deed Str)} (ho : ∀ x ∈ ds, deedOk x) {d : Int} (hd : 1 ≤ d) : LWOkB (d + 1) d (workL d ds) := (LWOkB.start hd (by omega)).run ds ho
theorem who_good {D d : Int} {s : LW Str} (ok : LWOkB D d s) {x : Int} {t : Str} (h : whoAt s.hung x = some t) : goodT t := by
  unfold whoAt at h
  cases e : s.hung.find? fun (p : Str × Int) => decide (p.2 = x) with
  | none => rw [e] at h; cases h
  | some q =>
    rw [e] at h
    cases h
    exact (ok.gd q (List.mem_of_find?_eq_some e)).1
theorem who_get : ∀ {l : List (Str × Int)} {x : Int} {t : Str}, (l.map (·.1)).Nodup → (l.map (·.2)).Nodup → (whoAt l x = some t ↔ getK l t = some x)
  | [], x, t, _, _ => by constructor <;> intro h <;> cases h
  | q :: l, x, t, h1, h2 => by
    rw [List.map_cons, List.nodup_cons] at h1 h2
    have ih := who_get (x := x) (t := t) h1.2 h2.2
    have mem1 : getK l t = some x → (t, x) ∈ l := fun h => by
      unfold getK at h
      cases e : l.find? fun (p : Str × Int) => decide (p.1 = t) with
      | none => rw [e] at h; cases h
      | some r =>
        rw [e] at h
        cases h
        have h3 := List.mem_of_find?_eq_some e
        have h4 : r.1 = t := of_decide_eq_true (List.find?_some (p := fun (p : Str × Int) => decide (p.1 = t)) e)
        rw [← h4]
        exact h3
    unfold whoAt getK at *
    rw [List.find?_cons, List.find?_cons]
    by_cases c1 : q.2 = x
    · by_cases c2 : q.1 = t
      · simp [c1, c2]
      · simp only [c1, c2, decide_true, decide_false]
        constructor
        · intro h
          exact absurd (Option.some.inj h) c2
        · intro h
          exact absurd (List.mem_map.mpr ⟨(t, x), mem1 h, rfl⟩) (c1 ▸ h2.1)
    · by_cases c2 : q.1 = t
      · simp only [c1, c2, decide_true, decide_false]
        constructor
        · intro h
          exact absurd (List.mem_map.mpr ⟨(t, x), mem1 (ih.mp h), rfl⟩) (c2 ▸ h1.1)
        · intro h
          exact absurd (Option.some.inj h) c1
      · simp only [c1, c2, decide_false]
        exact ih
theorem emod3 {x m : Int} (h1 : -m ≤ x) (h2 : x < 2 * m) (hm : 0 < m) : x % m = if x < 0 then x + m else if x < m then x else x - m := by
  split
  · rw [← Int.add_emod_right]
    exact Int.emod_eq_of_lt (by omega) (by omega)
  · split
    · exact Int.emod_eq_of_lt (by omega) (by omega)
    · rw [← Int.sub_emod_right]
      exact Int.emod_eq_of_lt (by omega) (by omega)
/-- two things the distance apart: one hangs at the far window behind a fetch of the other -/
theorem meet_eq {ds : List (Deed Str)} (ho : ∀ x ∈ ds, deedOk x) (a b : Str) {d : Int} (hd : 1 ≤ d) :
    apart ds a b d = (!failAt (ds ++ [.pl (.fetch false a)]) ds.length d && showAt ((ds ++ [.pl (.fetch false a)]) ++ [.pl (.look true)]) (ds ++ [Deed.pl (PD.fetch false a)]).length (whatV (some b)) d) := by
  rw [rest_eq, failAt_eq (x := Deed.pl (PD.fetch false a)) (by rw [List.getElem?_append_right (Nat.le_refl _), Nat.sub_self]; rfl), tL_last]
  have ew : workL d (ds ++ [.pl (.fetch false a)]) = (tellL d (workL d ds) (.pl (.fetch false a))).1 := by
    unfold workL
    rw [runL_snoc]
  rw [ew]
  have ok := work_ok ho hd
  have s1 := ok.s1
  have s2 := ok.s2
  unfold apart
  generalize workL d ds = s at ok s1 s2
  have e1 : tellL d s (.pl (.fetch false a)) = match getK s.hung a with
    | none => (s, .non)
    | some p => (shiftL d s ((p - spotL d s false) % (2 * d)), .int ((p - spotL d s false) % (2 * d))) := rfl
  rw [e1]
  cases ga : getK s.hung a with
  | none => rfl
  | some p =>
    have hp : 0 ≤ p ∧ p < 2 * d := by
      have := (who_get (x := p) (t := a) ok.nd ok.pl).mpr ga
      unfold whoAt at this
      cases e : s.hung.find? fun (q : Str × Int) => decide (q.2 = p) with
      | none => rw [e] at this; cases this
      | some q =>
        have h3 := List.mem_of_find?_eq_some e
        have h4 : q.2 = p := of_decide_eq_true (List.find?_some (p := fun (q : Str × Int) => decide (q.2 = p)) e)
        rw [← h4]
        exact (ok.gd q h3).2
    have f0 : failB (Deed.pl (PD.fetch false a)) (valT (.int ((p - spotL d s false) % (2 * d)))) = false := rfl
    dsimp only
    rw [f0]
    have sp0 : spotL d s false = s.stand := by
      show (s.stand + 0) % (2 * d) = s.stand
      rw [Int.add_zero]
      exact Int.emod_eq_of_lt s1 s2
    have st : (s.stand + (p - s.stand) % (2 * d)) % (2 * d) = p := by
      rw [Int.add_emod_emod]
      rw [show s.stand + (p - s.stand) = p by omega]
      exact Int.emod_eq_of_lt hp.1 hp.2
    have sp1 : spotL d (shiftL d s ((p - spotL d s false) % (2 * d))) true = (p + d) % (2 * d) := by
      rw [sp0]
      show ((s.stand + (p - s.stand) % (2 * d)) % (2 * d) + d) % (2 * d) = _
      rw [st]
    have th : thingL d (shiftL d s ((p - spotL d s false) % (2 * d))) true = whoAt s.hung ((p + d) % (2 * d)) := by
      show whoAt s.hung (spotL d (shiftL d s ((p - spotL d s false) % (2 * d))) true) = _
      rw [sp1]
    rw [th, Bool.not_false, Bool.true_and, Bool.eq_iff_iff, decide_eq_true_eq, who_get ok.nd ok.pl]
    cases gb : getK s.hung b with
    | none =>
      constructor <;> intro h <;> cases h
    | some q =>
      have hq : 0 ≤ q ∧ q < 2 * d := by
        have := (who_get (x := q) (t := b) ok.nd ok.pl).mpr gb
        unfold whoAt at this
        cases e : s.hung.find? fun (r : Str × Int) => decide (r.2 = q) with
        | none => rw [e] at this; cases this
        | some r =>
          have h3 := List.mem_of_find?_eq_some e
          have h4 : r.2 = q := of_decide_eq_true (List.find?_some (p := fun (r : Str × Int) => decide (r.2 = q)) e)
          rw [← h4]
          exact (ok.gd r h3).2
      show decide ((p - q) % (2 * d) = d) = true ↔ _
      rw [decide_eq_true_eq, Option.some_inj, emod3 (x := p - q) (m := 2 * d) (by omega) (by omega) (by omega), emod3 (x := p + d) (m := 2 * d) (by omega) (by omega) (by omega)]
      split <;> split <;> (try split) <;> omega
/-! the sets of the four things and of nothing, in the law's order -/
def whs : List (Option Str) := [some "a", some "sock", some "zzzzzzzz", some "shirt", none]
def restS (ds : List (Deed Str)) (f : Bool) (wh : Option Str) (d : Int) : Bool := showAt (ds ++ [.pl (.look f)]) ds.length (whatV wh) d
theorem whs_good : ∀ wh ∈ whs, ∀ t, wh = some t → goodT t := fun wh h t e => by
  subst e
  unfold whs at h
  simp only [List.mem_cons, List.not_mem_nil, or_false, Option.some.injEq, reduceCtorEq] at h
  unfold goodT
  exact h
theorem rest_all {ds : List (Deed Str)} (ho : ∀ x ∈ ds, deedOk x) (f : Bool) {d : Int} (hd : 1 ≤ d) : (whs.map (restS ds f)).any (fun S => S d) = true := by
  rw [List.any_map, List.any_eq_true]
  have ok := work_ok ho hd
  refine ⟨thingL d (workL d ds) f, ?_, ?_⟩
  · cases e : thingL d (workL d ds) f with
    | none => simp [whs]
    | some t =>
      have g := who_good ok e
      unfold goodT at g
      unfold whs
      rcases g with g | g | g | g <;> subst g <;> simp
  · show restS ds f (thingL d (workL d ds) f) d = true
    unfold restS
    rw [rest_eq, decide_eq_true_eq]
theorem whs_take : ∀ k, k < 5 → ∀ x ∈ whs.take k, whs[k]? ≠ some x := by decide +kernel
theorem rest_apart (ds : List (Deed Str)) (f : Bool) {k : Nat} {wh : Option Str} (hk : whs[k]? = some wh) (d : Int) : (restS ds f wh d && ((whs.take k).map (restS ds f)).any (fun S => S d)) = false := by
  rw [Bool.and_eq_false_iff]
  by_cases h : restS ds f wh d = true
  · refine .inr ?_
    rw [List.any_map, ← Bool.not_eq_true, List.any_eq_true]
    rintro ⟨x, hx, hxd⟩
    have hxd : restS ds f x d = true := hxd
    unfold restS at h hxd
    rw [rest_eq, decide_eq_true_eq] at h hxd
    have e : x = wh := hxd.symm.trans h
    subst e
    have hk5 : k < 5 := (List.getElem?_eq_some_iff.mp hk).1
    exact whs_take k hk5 x hx hk
  · exact .inl (by simpa using h)
end Rln
end
section
set_option Elab.async false
set_option linter.all false
set_option maxRecDepth 100000
set_option maxHeartbeats 4000000
namespace L2
open PySem PySem.Spec PyProof.Rows
/-- a power of a number below 2 ^ 1000 -/
def CPowW (i j : Int) : Prop := 0 ≤ j ∧ j ≤ 1000 ∧ i.natAbs < 2 ^ 1000
theorem op_powW {X : Cx} : OpR X (binaryOp .Pow) (rI CPowW fun i j => .int (i ^ j.toNat)) := opI fun i j _ _ _ _ _ hc q => by
  refine pow_int hc.1 ?_ q
  have h1 : Builtin.Int.intBits i ≤ 1000 := by
    unfold Builtin.Int.intBits
    split
    · omega
    · have := PySem.Flt.log2_lt_of (by omega : 0 < 1000) hc.2.2
      omega
  have h2 : (Builtin.Int.intBits i : Int) * j ≤ 1000 * 1000 := Int.mul_le_mul (by omega) hc.2.1 hc.1 (by omega)
  omega
end L2
end
section
set_option Elab.async false
set_option linter.all false
set_option maxRecDepth 100000
set_option maxHeartbeats 4000000
namespace Rln
open PySem PySem.Spec PyProof.Rows L2
/-- the law's pot: three numbers, drawn from at most n times -/
def PotAt (n : Nat) (H : Hp) (p : Addr) : Prop := ∃ a b c : Int, H p = some (.lst [.int a, .int b, .int c]) ∧ 0 ≤ a ∧ 0 ≤ b ∧ b < 2 ^ 200 ∧ 0 ≤ c ∧ c ≤ n
theorem PotAt.more {n m : Nat} {H : Hp} {p : Addr} (h : PotAt n H p) (l : n ≤ m) : PotAt m H p := by
  obtain ⟨a, b, c, h1, h2, h3, h4, h5, h6⟩ := h
  exact ⟨a, b, c, h1, h2, h3, h4, h5, by omega⟩
theorem PotAt.mono {n : Nat} {H H' : Hp} {p : Addr} (e : Same H H') (h : PotAt n H p) : PotAt n H' p := by
  obtain ⟨a, b, c, h1, h2⟩ := h
  exact ⟨a, b, c, e _ _ h1, h2⟩
theorem PotAt.ne {n : Nat} {H : Hp} {p q : Addr} (h : PotAt n H p) (hq : H q = none) : q ≠ p := by
  obtain ⟨a, b, c, h1, _⟩ := h
  intro e
  rw [e, h1] at hq
  cases hq
section
variable {P : Program} {w : World} {K : PySem.W.Frag} {mg : Str → Option Value} {base : Heap}
abbrev N_l_things : List Str := []
theorem sc_l_things : FnScope N_l_things [] (defScope s_l_things) := ⟨rfl, rfl, rfl, by decide +kernel, rfl, by decide +kernel, by decide +kernel⟩
def thV : List V := [.str "a", .str "sock", .str "zzzzzzzz", .str "shirt"]
def spThings : Sp := fun vs H Q _ => vs = [] ∧ ∀ r, H r = none → Q (.ref r) (upd H r (.tup thV))
theorem cal_l_things (T : Tx K mg) : Cal P w K mg base 1 "_law_things" spThings [] := by
  refine calD T.f_l_things T.g__law_things sc_l_things (fun vs H Q E h => ?_) (fun _ _ _ _ _ _ us hl => match us, hl with | [], _ => rfl) (fun cdv A outer s H vs Q E hr h => ?_)
  · obtain ⟨rfl, _⟩ := h
    rfl
  · obtain ⟨rfl, k⟩ := h
    refine ⟨_, (pss_one (ps_ret (pe_tup (pa_cons pe_str (pa_cons pe_str (pa_cons pe_str (pa_cons pe_str pa_nil))))))), ?_⟩
    exact ⟨by decide, k⟩
abbrev N_l_dip : List Str := ["_law_pot_here", "_law_many", "_law_found", "_law_mixed"]
theorem sc_l_dip : FnScope N_l_dip ["_law_pot_here", "_law_many"] (defScope s_l_dip) := ⟨rfl, rfl, rfl, by decide +kernel, rfl, by decide +kernel, by decide +kernel⟩
def spDip : Sp := fun vs H Q _ => ∃ (p : Addr) (m : Int) (n : Nat), vs = [.ref p, .int m] ∧ PotAt n H p ∧ n ≤ 1000 ∧ 0 < m ∧ m < 1000 ∧ ∀ H' r, Sx p H H' → PotAt (n + 1) H' p → 0 ≤ r → r < m → Q (.int r) H'
theorem cal_l_dip (T : Tx K mg) : Cal P w K mg base 1 "_law_dip" spDip [] := by
  refine calD T.f_l_dip T.g__law_dip sc_l_dip (fun vs H Q E h => ?_) (fun _ _ _ _ _ _ us hl => match us, hl with | [_, _], _ => rfl) (fun cdv A outer s H vs Q E hr h => ?_)
  · obtain ⟨p, m, n, rfl, _⟩ := h
    rfl
  · obtain ⟨p, m, n, rfl, ⟨a, b, c, hp, h0, h1, h2, h3, h4⟩, hn, m0, m1, k⟩ := h
    refine ⟨_, (pss_cons (ps_if (pt_cmpR op_gt (pe_ix ix_list (pv 0) pe_int (fun _ _ => rfl)) pe_int (nomark _)) (pss_cons (ps_set (i := 2) sc_l_dip.nd rfl (Or.inl rfl) (pe_op op_mod (pe_callTy call_int1 (by rfl) T.n_int boot_int (pa_cons (pe_ix ix_list (pv 0) pe_int (fun _ _ => rfl)) pa_nil)) (pv 1)))
      (pss_cons (ps_asg (pe_op op_fdiv (pe_ix ix_list (pv 0) pe_int (fun _ _ => rfl)) (pv 1)) (pg_sub (pv 0) pe_int set_list))
      (pss_one (ps_ret (pv 2))))) pss_nil)
      (pss_cons (ps_asg (pe_op op_add (pe_ix ix_list (pv 0) pe_int (fun _ _ => rfl)) pe_int) (pg_sub (pv 0) pe_int set_list))
      (pss_cons (ps_set (i := 3) sc_l_dip.nd rfl (Or.inl rfl) (pe_op op_mod (pe_callTy call_int1 (by rfl) T.n_int boot_int (pa_cons (pe_op op_powW (pe_op op_add (pe_ix ix_list (pv 0) pe_int (fun _ _ => rfl)) (pe_op op_mul pe_int (pe_ix ix_list (pv 0) pe_int (fun _ _ => rfl)))) pe_int) pa_nil)) (pe_op op_add (pe_op op_pow pe_int pe_int) pe_int)))
      (pss_cons (ps_set (i := 3) sc_l_dip.nd rfl (Or.inl rfl) (pe_op op_mod (pe_callTy call_int1 (by rfl) T.n_int boot_int (pa_cons (pe_op op_powW (pe_op op_add (pv 3) (pe_op op_mul pe_int (pe_ix ix_list (pv 0) pe_int (fun _ _ => rfl)))) pe_int) pa_nil)) (pe_op op_add (pe_op op_pow pe_int pe_int) pe_int)))
      (pss_one (ps_ret (pe_op op_mod (pe_callTy call_int1 (by rfl) T.n_int boot_int (pa_cons (pe_op op_fdiv (pv 3) (pe_op op_pow pe_int pe_int)) pa_nil)) (pv 1)))))))), ?_⟩
    refine ⟨_, rfl, p, _, _, _, rfl, rfl, SqL.of hp, rfl, _, _, rfl, rfl, _, rfl, ?_⟩
    by_cases c0 : 0 < a
    · refine iteTd (decide_eq_true c0) ?_
      refine ⟨_, rfl, p, _, _, _, rfl, rfl, SqL.of hp, rfl, .inl ⟨_, rfl, _, rfl, _, _, rfl, rfl, m0, ?_⟩⟩
      refine ⟨_, rfl, p, _, _, _, rfl, rfl, SqL.of hp, rfl, _, rfl, _, _, rfl, rfl, ⟨m0, by omega⟩, ?_⟩
      refine ⟨_, rfl, p, _, 0, 0, rfl, rfl, hp, rfl, ?_⟩
      exact ⟨_, rfl, k _ _ (fun b u n z => by rw [upd_ne n]; exact z) ⟨a / m, b, c, upd_same, Int.ediv_nonneg h0 (by omega), h1, h2, h3, by omega⟩ (Int.emod_nonneg _ (by omega)) (Int.emod_lt_of_pos _ m0)⟩
    · refine iteFd (decide_eq_false c0) ?_
      refine ⟨_, rfl, p, _, _, _, rfl, rfl, SqL.of hp, rfl, _, _, rfl, rfl, ?_⟩
      refine ⟨_, rfl, p, _, 2, 2, rfl, rfl, hp, rfl, ?_⟩
      have e1 : Sx p H (upd H p (.lst ([V.int a, .int b, .int c].set 2 (.int (c + 1))))) := fun b u n z => by rw [upd_ne n]; exact z
      have hp1 : upd H p (.lst ([V.int a, .int b, .int c].set 2 (.int (c + 1)))) p = some (.lst [.int a, .int b, .int (c + 1)]) := upd_same
      generalize upd H p (.lst ([V.int a, .int b, .int c].set 2 (.int (c + 1)))) = H1 at e1 hp1
      have big : ∀ x y : Int, 0 ≤ x → x < 2 ^ 201 → 0 ≤ y → y ≤ 1001 → (x + 86028121 * y).natAbs < 2 ^ 1000 ∧ (x + 179424673 * y).natAbs < 2 ^ 1000 := fun x y h1 h2 h3 h4 => by
        constructor <;> omega
      refine ⟨_, rfl, p, _, _, _, rfl, rfl, SqL.of hp1, rfl, _, rfl, p, _, _, _, rfl, rfl, SqL.of hp1, rfl, _, _, rfl, rfl, .inl (by decide), _, _, rfl, rfl, _, _, rfl, rfl, ⟨by decide, by decide, (big b (c + 1) h1 (by omega) (by omega) (by omega)).1⟩, .inl ⟨_, rfl, ?_⟩⟩
      have p41 : CPow 10 41 := ⟨by decide, by decide, by decide⟩
      have p39 : CPow 10 39 := ⟨by decide, by decide, by decide⟩
      have p7 : CPow 10 7 := ⟨by decide, by decide, by decide⟩
      have m41 : (0 : Int) < 10 ^ Int.toNat 41 + 9 := by decide +kernel
      have m39 : (0 : Int) < 10 ^ Int.toNat 39 + 57 := by decide +kernel
      refine ⟨_, _, rfl, rfl, p41, _, _, rfl, rfl, _, _, rfl, rfl, m41, ?_⟩
      have x0 := Int.emod_nonneg ((b + 86028121 * (c + 1)) ^ Int.toNat 3) (show (10 ^ Int.toNat 41 + 9 : Int) ≠ 0 by decide +kernel)
      have x1 : ((b + 86028121 * (c + 1)) ^ Int.toNat 3) % (10 ^ Int.toNat 41 + 9) < 2 ^ 201 := Int.lt_trans (Int.emod_lt_of_pos _ m41) (by decide +kernel)
      refine ⟨_, rfl, _, rfl, p, _, _, _, rfl, rfl, SqL.of hp1, rfl, _, _, rfl, rfl, .inl (by decide), _, _, rfl, rfl, _, _, rfl, rfl, ⟨by decide, by decide, (big _ (c + 1) x0 x1 (by omega) (by omega)).2⟩, .inl ⟨_, rfl, ?_⟩⟩
      refine ⟨_, _, rfl, rfl, p39, _, _, rfl, rfl, _, _, rfl, rfl, m39, ?_⟩
      refine ⟨_, rfl, _, _, rfl, rfl, p7, _, _, rfl, rfl, ⟨by decide, by decide⟩, .inl ⟨_, rfl, _, rfl, _, _, rfl, rfl, m0, ?_⟩⟩
      exact k _ _ e1 ⟨a, b, c + 1, hp1, h0, h1, h2, by omega, by omega⟩ (Int.emod_nonneg _ (by omega)) (Int.emod_lt_of_pos _ m0)
abbrev N_l_window : List Str := ["_law_pot_here"]
theorem sc_l_window : FnScope N_l_window ["_law_pot_here"] (defScope s_l_window) := ⟨rfl, rfl, rfl, by decide +kernel, rfl, by decide +kernel, by decide +kernel⟩
def spWin : Sp := fun vs H Q _ => ∃ (p : Addr) (n : Nat), vs = [.ref p] ∧ PotAt n H p ∧ n ≤ 1000 ∧ ∀ H' f, Sx p H H' → PotAt (n + 1) H' p → Q (.str (wS f)) H'
theorem cal_l_window (T : Tx K mg) : Cal P w K mg base 2 "_law_window" spWin [] := by
  refine calD T.f_l_window T.g__law_window sc_l_window (fun vs H Q E h => ?_) (fun _ _ _ _ _ _ us hl => match us, hl with | [_], _ => rfl) (fun cdv A outer s H vs Q E hr h => ?_)
  · obtain ⟨p, n, rfl, _⟩ := h
    rfl
  · obtain ⟨p, n, rfl, hp, hn, k⟩ := h
    refine ⟨_, (pss_one (ps_ret (pe_ix ix_list (pe_lst (pa_cons pe_str (pa_cons pe_str pa_nil))) (C8.pe_c (cal_l_dip T) hr (by decide) (by rfl) (pa_cons (pv 0) (pa_cons pe_int pa_nil))) (fun _ _ => rfl)))), ?_⟩
    refine ⟨by decide, fun L hL => ?_⟩
    have e1 : Same H (upd H L (.lst [.str "near", .str "far"])) := Same.new hL
    have hL1 : upd H L (.lst [.str "near", .str "far"]) L = some (.lst [.str "near", .str "far"]) := upd_same
    have nL := hp.ne hL
    refine ⟨_, rfl, p, 2, n, rfl, hp.mono e1, hn, by decide, by decide, fun H2 r s2 hp2 r0 r1 => ?_⟩
    have hL2 := s2 L _ nL hL1
    have sx : Sx p H H2 := fun b u n z => s2 b u n (e1 b u z)
    have hr : r = 0 ∨ r = 1 := by omega
    rcases hr with rfl | rfl
    · exact ⟨L, _, _, _, rfl, rfl, SqL.of hL2, rfl, k H2 false sx hp2⟩
    · exact ⟨L, _, _, _, rfl, rfl, SqL.of hL2, rfl, k H2 true sx hp2⟩
end
end Rln
end
section
set_option Elab.async false
set_option linter.all false
set_option maxRecDepth 100000
set_option maxHeartbeats 4000000
namespace Rln
open PySem PySem.Spec PyProof.Rows L2
theorem sx_new {p a : Addr} {H H' : Hp} {o : HO} (e : Sx p H H') (h : H' a = none) : Sx p H (upd H' a o) := fun b u n z => by
  have := e b u n z
  rw [upd_ne (ne_of_none this h)]
  exact this
theorem label_of {r : Int} (h0 : 0 ≤ r) (h1 : r < 3) : ∃ t, atI thV r = some (.str t) ∧ goodT t := by
  have : r = 0 ∨ r = 1 ∨ r = 2 := by omega
  rcases this with rfl | rfl | rfl
  · exact ⟨"a", rfl, .inl rfl⟩
  · exact ⟨"sock", rfl, .inr (.inl rfl)⟩
  · exact ⟨"zzzzzzzz", rfl, .inr (.inr (.inl rfl))⟩
section
variable {P : Program} {w : World} {K : PySem.W.Frag} {mg : Str → Option Value} {base : Heap}
abbrev N_l_plain : List Str := ["_law_pot_here", "_law_large", "_law_way", "_law_side", "_law_label", "_law_size", "_law_step", "_law_some"]
theorem sc_l_plain : FnScope N_l_plain ["_law_pot_here", "_law_large"] (defScope s_l_plain) := ⟨rfl, rfl, rfl, by decide +kernel, rfl, by decide +kernel, by decide +kernel⟩
def spLPlain : Sp := fun vs H Q _ => ∃ (p : Addr) (n : Nat), vs = [.ref p, .int 3] ∧ PotAt n H p ∧ n ≤ 900 ∧ ∀ H' a x, Sx p H H' → PotAt (n + 6) H' p → H' a = some (.tup (pdV x)) → pdOk x → Q (.ref a) H'
theorem cal_l_plain (T : Tx K mg) : Cal P w K mg base 3 "_law_plain" spLPlain [] := by
  refine calD T.f_l_plain T.g__law_plain sc_l_plain (fun vs H Q E h => ?_) (fun _ _ _ _ _ _ us hl => match us, hl with | [_, _], _ => rfl) (fun cdv A outer s H vs Q E hr h => ?_)
  · obtain ⟨p, n, rfl, _⟩ := h
    rfl
  · obtain ⟨p, n, rfl, hp, hn, k⟩ := h
    refine ⟨_, (pss_cons (ps_par3 (i := 2) (j := 3) (l := 4) (by rfl) sc_l_plain.nd rfl rfl rfl (by decide) (by decide) (by decide) rfl rfl rfl (pa_cons (C8.pe_c (cal_l_dip T) hr (by decide) (by rfl) (pa_cons (pv 0) (pa_cons pe_int pa_nil))) (pa_cons (C8.pe_c (cal_l_window T) hr (by decide) (by rfl) (pa_cons (pv 0) pa_nil)) (pa_cons (pe_ix ix_tup (pe_c0 (cal_l_things T) hr (by decide) (by rfl)) (C8.pe_c (cal_l_dip T) hr (by decide) (by rfl) (pa_cons (pv 0) (pa_cons pe_int pa_nil))) (fun _ _ => rfl)) pa_nil))) (by rfl))
      (pss_cons (ps_set (i := 5) sc_l_plain.nd rfl (Or.inl rfl) (pe_op op_add pe_int (C8.pe_c (cal_l_dip T) hr (by decide) (by rfl) (pa_cons (pv 0) (pa_cons (pv 1) pa_nil)))))
      (pss_cons (ps_if (pt_cmpR op_lt (pv 2) pe_int (nomark _)) (pss_one (ps_ret (pe_tup (pa_cons pe_str (pa_cons (pv 3) (pa_cons (pv 4) pa_nil)))))) pss_nil)
      (pss_cons (ps_if (pt_cmpR op_lt (pv 2) pe_int (nomark _)) (pss_one (ps_ret (pe_tup (pa_cons pe_str (pa_cons (pe_ix ix_list (pe_lst (pa_cons (pv 5) (pa_cons (pv 5) (pa_cons (pe_un un_neg (pv 5)) pa_nil)))) (C8.pe_c (cal_l_dip T) hr (by decide) (by rfl) (pa_cons (pv 0) (pa_cons pe_int pa_nil))) (fun _ _ => rfl)) pa_nil))))) pss_nil)
      (pss_cons (ps_set (i := 6) sc_l_plain.nd rfl (Or.inl rfl) (pe_ix ix_list (pe_lst (pa_cons pe_int (pa_cons pe_int (pa_cons pe_int (pa_cons pe_int (pa_cons pe_int (pa_cons pe_int pa_nil))))))) (C8.pe_c (cal_l_dip T) hr (by decide) (by rfl) (pa_cons (pv 0) (pa_cons pe_int pa_nil))) (fun _ _ => rfl)))
      (pss_cons (ps_set (i := 7) sc_l_plain.nd rfl (Or.inl rfl) (pe_lst (pa_cons (pe_tup (pa_cons pe_str (pa_cons (pv 3) (pa_cons (pv 4) pa_nil)))) (pa_cons (pe_tup (pa_cons pe_str (pa_cons (pv 3) pa_nil))) (pa_cons (pe_tup (pa_cons pe_str (pa_cons (pv 3) pa_nil))) (pa_cons (pe_tup (pa_cons pe_str (pa_cons (pv 3) (pa_cons (pv 4) pa_nil)))) pa_nil))))))
      (pss_one (ps_ret (pe_ix ix_list (pe_op op_cat (pv 7) (pe_lst (pa_cons (pe_tup (pa_cons pe_str (pa_cons (pv 3) (pa_cons (pe_ix ix_list (pe_lst (pa_cons (pv 6) (pa_cons (pe_un un_neg (pv 6)) pa_nil))) (C8.pe_c (cal_l_dip T) hr (by decide) (by rfl) (pa_cons (pv 0) (pa_cons pe_int pa_nil))) (fun _ _ => rfl)) pa_nil)))) pa_nil))) (pe_op op_sub (pv 2) pe_int) (fun _ _ => rfl)))))))))), ?_⟩
    refine ⟨_, rfl, p, 10, n, rfl, hp, by omega, by decide, by decide, fun H1 way s1 hp1 w0 w1 => ?_⟩
    refine ⟨_, rfl, p, n + 1, rfl, hp1, by omega, fun H2 f s2 hp2 => ?_⟩
    have s2 := s1.trans s2
    refine ⟨rfl, fun A hA => ?_⟩
    have e3 : Same H2 (upd H2 A (.tup thV)) := Same.new hA
    have nA := hp2.ne hA
    refine ⟨_, rfl, p, 3, n + 2, rfl, hp2.mono e3, by omega, by decide, by decide, fun H3 r s3 hp3 r0 r1 => ?_⟩
    have hA3 := s3 A _ nA upd_same
    replace s3 : Sx p H H3 := (sx_new s2 hA).trans s3
    obtain ⟨t, ht, gt⟩ := label_of r0 r1
    refine ⟨A, _, _, _, rfl, rfl, SqT.of hA3, ht, ?_⟩
    refine ⟨_, _, _, rfl, _, rfl, _, rfl, p, 3, n + 3, rfl, hp3, by omega, by decide, by decide, fun H4 z s4 hp4 z0 z1 => ?_⟩
    replace s4 := s3.trans s4
    refine ⟨_, _, rfl, rfl, ?_⟩
    have z1 : 1 ≤ sizeLine := by decide
    have z2 : 2 ≤ sizeLine := by decide
    have z3 : 3 ≤ sizeLine := by decide
    have z4 : 4 ≤ sizeLine := by decide
    refine ⟨_, rfl, _, _, rfl, rfl, _, rfl, ?_⟩
    by_cases c0 : way < 3
    · refine iteTd (decide_eq_true c0) ⟨_, rfl, _, rfl, z3, fun a ha => ?_⟩
      exact k _ a (.peg f t) (sx_new s4 ha) ((hp4.mono (Same.new ha)).more (by omega)) upd_same gt
    refine iteFd (decide_eq_false c0) ?_
    refine ⟨_, rfl, _, _, rfl, rfl, _, rfl, ?_⟩
    by_cases c1 : way < 5
    · refine iteTd (decide_eq_true c1) ?_
      refine ⟨_, rfl, _, rfl, _, rfl, _, rfl, z3, fun L hL => ?_⟩
      have e5 : Same H4 (upd H4 L (.lst [.int (1 + z), .int (1 + z), .int (-(1 + z))])) := Same.new hL
      refine ⟨_, rfl, p, 3, n + 4, rfl, hp4.mono e5, by omega, by decide, by decide, fun H5 r5 s5 hp5 r50 r51 => ?_⟩
      have hL5 := s5 L _ (hp4.ne hL) upd_same
      replace s5 : Sx p H H5 := (sx_new s4 hL).trans s5
      have pick : ∃ m, atI [V.int (1 + z), .int (1 + z), .int (-(1 + z))] r5 = some (.int m) ∧ pdOk (.pull m) := by
        have : r5 = 0 ∨ r5 = 1 ∨ r5 = 2 := by omega
        rcases this with rfl | rfl | rfl
        · exact ⟨_, rfl, by omega, by omega, by omega⟩
        · exact ⟨_, rfl, by omega, by omega, by omega⟩
        · exact ⟨_, rfl, by omega, by omega, by omega⟩
      obtain ⟨m, hm, okm⟩ := pick
      refine ⟨L, _, _, _, rfl, rfl, SqL.of hL5, hm, z2, fun a ha => ?_⟩
      exact k _ a (.pull m) (sx_new s5 ha) ((hp5.mono (Same.new ha)).more (by omega)) upd_same okm
    refine iteFd (decide_eq_false c1) ?_
    refine ⟨by decide, fun L hL => ?_⟩
    have e5 : Same H4 (upd H4 L (.lst [.int 1, .int 2, .int 3, .int 4, .int 6, .int 5])) := Same.new hL
    refine ⟨_, rfl, p, 6, n + 4, rfl, hp4.mono e5, by omega, by decide, by decide, fun H5 r5 s5 hp5 r50 r51 => ?_⟩
    have hL5 := s5 L _ (hp4.ne hL) upd_same
    replace s5 : Sx p H H5 := (sx_new s4 hL).trans s5
    have pick : ∃ m : Int, atI [V.int 1, .int 2, .int 3, .int 4, .int 6, .int 5] r5 = some (.int m) ∧ 1 ≤ m ∧ m ≤ 6 := by
      have : r5 = 0 ∨ r5 = 1 ∨ r5 = 2 ∨ r5 = 3 ∨ r5 = 4 ∨ r5 = 5 := by omega
      rcases this with rfl | rfl | rfl | rfl | rfl | rfl <;> exact ⟨_, rfl, by decide, by decide⟩
    obtain ⟨m, hm, m1, m6⟩ := pick
    refine ⟨L, _, _, _, rfl, rfl, SqL.of hL5, hm, ?_⟩
    refine ⟨_, rfl, _, rfl, z3, fun a1 h1 => ?_⟩
    have k1 : Same H5 (upd H5 a1 (.tup [.str "hang", .str (wS f), .str t])) := Same.new h1
    have u1 : upd H5 a1 (.tup [.str "hang", .str (wS f), .str t]) a1 = some (.tup [.str "hang", .str (wS f), .str t]) := upd_same
    generalize upd H5 a1 (.tup [.str "hang", .str (wS f), .str t]) = A1 at k1 u1
    refine ⟨_, rfl, z2, fun a2 h2 => ?_⟩
    have k2 : Same A1 (upd A1 a2 (.tup [.str "take", .str (wS f)])) := Same.new h2
    have u2 : upd A1 a2 (.tup [.str "take", .str (wS f)]) a2 = some (.tup [.str "take", .str (wS f)]) := upd_same
    replace u1 := k2 _ _ u1
    generalize upd A1 a2 (.tup [.str "take", .str (wS f)]) = A2 at k2 u2 u1
    refine ⟨_, rfl, z2, fun a3 h3 => ?_⟩
    have k3 : Same A2 (upd A2 a3 (.tup [.str "look", .str (wS f)])) := Same.new h3
    have u3 : upd A2 a3 (.tup [.str "look", .str (wS f)]) a3 = some (.tup [.str "look", .str (wS f)]) := upd_same
    replace u1 := k3 _ _ u1
    replace u2 := k3 _ _ u2
    generalize upd A2 a3 (.tup [.str "look", .str (wS f)]) = A3 at k3 u3 u1 u2
    refine ⟨_, rfl, _, rfl, z3, fun a4 h4 => ?_⟩
    have k4 : Same A3 (upd A3 a4 (.tup [.str "fetch", .str (wS f), .str t])) := Same.new h4
    have u4 : upd A3 a4 (.tup [.str "fetch", .str (wS f), .str t]) a4 = some (.tup [.str "fetch", .str (wS f), .str t]) := upd_same
    replace u1 := k4 _ _ u1
    replace u2 := k4 _ _ u2
    replace u3 := k4 _ _ u3
    generalize upd A3 a4 (.tup [.str "fetch", .str (wS f), .str t]) = A4 at k4 u4 u1 u2 u3
    refine ⟨z4, fun M h5 => ?_⟩
    have k5 : Same A4 (upd A4 M (.lst [.ref a1, .ref a2, .ref a3, .ref a4])) := Same.new h5
    have u5 : upd A4 M (.lst [.ref a1, .ref a2, .ref a3, .ref a4]) M = some (.lst [.ref a1, .ref a2, .ref a3, .ref a4]) := upd_same
    replace u1 := k5 _ _ u1
    replace u2 := k5 _ _ u2
    replace u3 := k5 _ _ u3
    replace u4 := k5 _ _ u4
    generalize upd A4 M (.lst [.ref a1, .ref a2, .ref a3, .ref a4]) = A5 at k5 u5 u1 u2 u3 u4
    have k15 : Same H5 A5 := (((k1.trans k2).trans k3).trans k4).trans k5
    have s6 : Sx p H A5 := fun b u n z => k15 b u (s5 b u n z)
    have hp6 := hp5.mono k15
    refine ⟨_, rfl, _, rfl, _, rfl, _, rfl, _, rfl, z2, fun L6 h6 => ?_⟩
    have k6 : Same A5 (upd A5 L6 (.lst [.int m, .int (-m)])) := Same.new h6
    have u6 : upd A5 L6 (.lst [.int m, .int (-m)]) L6 = some (.lst [.int m, .int (-m)]) := upd_same
    replace u1 := k6 _ _ u1
    replace u2 := k6 _ _ u2
    replace u3 := k6 _ _ u3
    replace u4 := k6 _ _ u4
    replace u5 := k6 _ _ u5
    generalize upd A5 L6 (.lst [.int m, .int (-m)]) = A6 at k6 u6 u1 u2 u3 u4 u5
    have s7 : Sx p H A6 := fun b u n z => k6 b u (s6 b u n z)
    refine ⟨_, rfl, p, 2, n + 5, rfl, hp6.mono k6, by omega, by decide, by decide, fun H7 r7 s8 hp7 r70 r71 => ?_⟩
    have ne : ∀ {b : Addr} {o : HO}, A6 b = some o → (∀ x y z : V, o ≠ .lst [x, y, z]) → b ≠ p := fun {b o} hb hn e => by
      obtain ⟨x, y, z, hz, _⟩ := hp6.mono k6
      rw [e, hz] at hb
      exact hn _ _ _ (Option.some.inj hb).symm
    have v1 := s8 _ _ (ne u1 (fun x y z e => by cases e)) u1
    have v2 := s8 _ _ (ne u2 (fun x y z e => by cases e)) u2
    have v3 := s8 _ _ (ne u3 (fun x y z e => by cases e)) u3
    have v4 := s8 _ _ (ne u4 (fun x y z e => by cases e)) u4
    have v5 := s8 _ _ (ne u5 (fun x y z e => by cases e)) u5
    have v6 := s8 _ _ (ne u6 (fun x y z e => by cases e)) u6
    replace s8 : Sx p H H7 := s7.trans s8
    have pick : ∃ j : Int, atI [V.int m, .int (-m)] r7 = some (.int j) ∧ pdOk (.walk f j) := by
      have : r7 = 0 ∨ r7 = 1 := by omega
      rcases this with rfl | rfl
      · exact ⟨_, rfl, by omega, by omega, by omega⟩
      · exact ⟨_, rfl, by omega, by omega, by omega⟩
    obtain ⟨j, hj, okj⟩ := pick
    refine ⟨L6, _, _, _, rfl, rfl, SqL.of v6, hj, z3, fun a7 h7 => ?_⟩
    have k7 : Same H7 (upd H7 a7 (.tup [.str "walk", .str (wS f), .int j])) := Same.new h7
    have u7 : upd H7 a7 (.tup [.str "walk", .str (wS f), .int j]) a7 = some (.tup [.str "walk", .str (wS f), .int j]) := upd_same
    replace v1 := k7 _ _ v1
    replace v2 := k7 _ _ v2
    replace v3 := k7 _ _ v3
    replace v4 := k7 _ _ v4
    replace v5 := k7 _ _ v5
    generalize upd H7 a7 (.tup [.str "walk", .str (wS f), .int j]) = A7 at k7 u7 v1 v2 v3 v4 v5
    refine ⟨z1, fun L8 h8 => ?_⟩
    have k8 : Same A7 (upd A7 L8 (.lst [.ref a7])) := Same.new h8
    have u8 : upd A7 L8 (.lst [.ref a7]) L8 = some (.lst [.ref a7]) := upd_same
    replace v1 := k8 _ _ v1
    replace v2 := k8 _ _ v2
    replace v3 := k8 _ _ v3
    replace v4 := k8 _ _ v4
    replace v5 := k8 _ _ v5
    replace u7 := k8 _ _ u7
    generalize upd A7 L8 (.lst [.ref a7]) = A8 at k8 u8 v1 v2 v3 v4 v5 u7
    refine ⟨M, L8, _, _, rfl, rfl, v5, u8, by show 4 + 1 ≤ sizeLine; decide, fun L9 h9 => ?_⟩
    have k9 : Same A8 (upd A8 L9 (.lst ([.ref a1, .ref a2, .ref a3, .ref a4] ++ [.ref a7]))) := Same.new h9
    have u9 : upd A8 L9 (.lst ([.ref a1, .ref a2, .ref a3, .ref a4] ++ [.ref a7])) L9 = some (.lst ([.ref a1, .ref a2, .ref a3, .ref a4] ++ [.ref a7])) := upd_same
    replace v1 := k9 _ _ v1
    replace v2 := k9 _ _ v2
    replace v3 := k9 _ _ v3
    replace v4 := k9 _ _ v4
    replace u7 := k9 _ _ u7
    generalize upd A8 L9 (.lst ([.ref a1, .ref a2, .ref a3, .ref a4] ++ [.ref a7])) = A9 at k9 u9 v1 v2 v3 v4 u7
    have s9 : Sx p H A9 := fun b u n z => k9 b u (k8 b u (k7 b u (s8 b u n z)))
    have hp9 := (((hp7.mono k7).mono k8).mono k9).more (show n + 5 + 1 ≤ n + 6 by omega)
    have hw : way = 5 ∨ way = 6 ∨ way = 7 ∨ way = 8 ∨ way = 9 := by omega
    rcases hw with rfl | rfl | rfl | rfl | rfl
    · exact ⟨_, rfl, _, _, rfl, rfl, L9, _, _, _, rfl, rfl, SqL.of u9, rfl, k A9 a1 (.hang f t) s9 hp9 v1 gt⟩
    · exact ⟨_, rfl, _, _, rfl, rfl, L9, _, _, _, rfl, rfl, SqL.of u9, rfl, k A9 a2 (.take f) s9 hp9 v2 trivial⟩
    · exact ⟨_, rfl, _, _, rfl, rfl, L9, _, _, _, rfl, rfl, SqL.of u9, rfl, k A9 a3 (.look f) s9 hp9 v3 trivial⟩
    · exact ⟨_, rfl, _, _, rfl, rfl, L9, _, _, _, rfl, rfl, SqL.of u9, rfl, k A9 a4 (.fetch f t) s9 hp9 v4 gt⟩
    · exact ⟨_, rfl, _, _, rfl, rfl, L9, _, _, _, rfl, rfl, SqL.of u9, rfl, k A9 a7 (.walk f j) s9 hp9 u7 okj⟩
end
end Rln
end
section
set_option Elab.async false
set_option linter.all false
set_option maxRecDepth 100000
set_option maxHeartbeats 4000000
namespace Rln
open PySem PySem.Spec PyProof.Rows L2
/-- how far n more deeds may reach behind h things -/
def far_ : Nat → Int → Int
  | 0, _ => 0
  | n + 1, h => max (3 + far_ n h) (h + far_ n (h + 1))
theorem far_nn : ∀ (n : Nat) (h : Int), 0 ≤ far_ n h
  | 0, _ => Int.le_refl _
  | n + 1, h => by
    have := far_nn n h
    show 0 ≤ max (3 + far_ n h) (h + far_ n (h + 1))
    omega
theorem far_ge : ∀ (es : List (Deed Str)) (n : Nat) (rh : Int × Int), es.length ≤ n → 0 ≤ rh.2 → (∀ x ∈ es, deedOk x) → (es.foldl (fun rh x => reachStep rh x.inner) rh).1 ≤ rh.1 + far_ n rh.2
  | [], n, rh, _, _, _ => by
    have := far_nn n rh.2
    show rh.1 ≤ _
    omega
  | x :: es, 0, rh, h, _, _ => by cases h
  | x :: es, n + 1, rh, h, h0, ho => by
    have hx := ho x (List.mem_cons_self ..)
    have hin : pdOk x.inner := by
      cases x with
      | pl p => exact hx
      | whn f wh p => exact hx.2
    rw [List.foldl_cons]
    have l : es.length ≤ n := by rw [List.length_cons] at h; omega
    have f1 : far_ (n + 1) rh.2 = max (3 + far_ n rh.2) (rh.2 + far_ n (rh.2 + 1)) := rfl
    have n0 : 0 ≤ (reachStep rh x.inner).2 := by
      cases x.inner <;> dsimp only [reachStep] <;> omega
    have ih := far_ge es n (reachStep rh x.inner) l n0 fun y hy => ho y (List.mem_cons_of_mem _ hy)
    refine Int.le_trans ih ?_
    cases e : x.inner with
    | pull m =>
      rw [e] at hin
      have h1 := hin.2.1
      have h2 := hin.2.2
      dsimp only [reachStep]
      omega
    | _ => dsimp only [reachStep] <;> omega
theorem far_5 (h : Int) (h0 : h = 0 ∨ h = 1) : far_ 5 h ≤ 15 := by
  rcases h0 with rfl | rfl <;> decide
/-- the law's deeds: a peg first or none, at most five behind it -/
theorem POk.made {hd es : List (Deed Str)} (hp : hd = [] ∨ ∃ f t, hd = [.pl (.peg f t)] ∧ goodT t) (ho : ∀ x ∈ es, deedOk x) (hl : es.length ≤ 5) : POk (hd ++ es) ∧ (hd ++ es).length ≤ 6 := by
  have bd : ∀ rh : Int × Int, (rh = (0, 0) ∨ rh = (0, 1)) → (es.foldl (fun rh x => reachStep rh x.inner) rh).1 ≤ 15 := fun rh h => by
    have h2 : rh.2 = 0 ∨ rh.2 = 1 := by rcases h with rfl | rfl <;> simp
    have h1 : rh.1 = 0 := by rcases h with rfl | rfl <;> rfl
    have := far_ge es 5 rh hl (by omega) ho
    have := far_5 rh.2 h2
    omega
  rcases hp with rfl | ⟨f, t, rfl, gt⟩
  · refine ⟨⟨ho, by rw [List.nil_append]; omega, ?_⟩, by rw [List.nil_append]; omega⟩
    have := bd (0, 0) (.inl rfl)
    unfold boundOf reachOf
    rw [List.nil_append]
    omega
  · refine ⟨⟨fun x hx => ?_, by rw [List.length_append, List.length_singleton]; omega, ?_⟩, by rw [List.length_append, List.length_singleton]; omega⟩
    · rcases List.mem_append.mp hx with hx | hx
      · rw [List.mem_singleton] at hx
        subst hx
        exact gt
      · exact ho x hx
    · have := bd (0, 1) (.inr rfl)
      have e : (reachOf ([.pl (.peg f t)] ++ es)) = es.foldl (fun rh x => reachStep rh x.inner) (0, 1) := rfl
      unfold boundOf
      rw [e]
      omega
theorem cut_all (xs : List V) (i : Nat) (h : xs.length ≤ i) : cutV xs none (some (i : Int)) = xs := by
  unfold cutV
  rw [HT.sIx_nat, Nat.min_eq_right h]
  show (xs.drop 0).take (xs.length - 0) = xs
  rw [List.drop_zero, Nat.sub_zero, List.take_length]
theorem DAt.pot {n : Nat} {H H' : Hp} {p : Addr} {v : V} {x : Deed Str} (h : DAt H v x) (hp : PotAt n H p) (e : Sx p H H') : DAt H' v x := by
  obtain ⟨a, b, c, h1, _⟩ := hp
  exact h.put h1 e
theorem IxD.pot {n : Nat} {H H' : Hp} {p : Addr} {us : List V} {ds : List (Deed Str)} (h : IxD H us ds) (hp : PotAt n H p) (e : Sx p H H') : IxD H' us ds := by
  obtain ⟨a, b, c, h1, _⟩ := hp
  exact h.put h1 e
theorem PotAt.put {n : Nat} {H H' : Hp} {p q : Addr} (h : PotAt n H p) (ne : p ≠ q) (e : Sx q H H') : PotAt n H' p := by
  obtain ⟨a, b, c, h1, h2⟩ := h
  exact ⟨a, b, c, e _ _ ne h1, h2⟩
theorem fresh_back {n : Nat} {H H' : Hp} {p q : Addr} (s : Sx p H H') (hp : PotAt n H' p) (h : H' q = none) : H q = none := by
  have ne := hp.ne h
  cases e : H q with
  | none => rfl
  | some u =>
    rw [s q u ne e] at h
    cases h
section
variable {P : Program} {w : World} {K : PySem.W.Frag} {mg : Str → Option Value} {base : Heap}
abbrev N_l_deeds : List Str := ["_law_pot_here", "_law_many", "_law_large", "_law_found", "_law_k", "_law_deed", "_law_item"]
theorem sc_l_deeds : FnScope N_l_deeds ["_law_pot_here", "_law_many", "_law_large"] (defScope s_l_deeds) := ⟨rfl, rfl, rfl, by decide +kernel, rfl, by decide +kernel, by decide +kernel⟩
def spLDeeds (K : PySem.W.Frag) : Sp := fun vs H Q _ => ∃ (p : Addr) (n : Nat), vs = [.ref p, .int 6, .int 3] ∧ PotAt n H p ∧ n ≤ 700 ∧ ∀ H' v ds, Sx p H H' → PotAt (n + 200) H' p → DsAt K H' v ds → POk ds → ds.length ≤ 6 → Q v H'
theorem cal_l_deeds (T : Tx K mg) : Cal P w K mg base 4 "_law_deeds" (spLDeeds K) [] := by
  refine calD T.f_l_deeds T.g__law_deeds sc_l_deeds (fun vs H Q E h => ?_) (fun _ _ _ _ _ _ us hl => match us, hl with | [_, _, _], _ => rfl) (fun cdv A outer s H vs Q E hr h => ?_)
  · obtain ⟨p, n, rfl, _⟩ := h
    rfl
  · obtain ⟨p, n, rfl, hp, hn, k⟩ := h
    refine ⟨_, (pss_cons (ps_set (i := 3) sc_l_deeds.nd rfl (Or.inl rfl) (pe_ifExp (pt_cmpR op_gt (C8.pe_c (cal_l_dip T) hr (by decide) (by rfl) (pa_cons (pv 0) (pa_cons pe_int pa_nil))) pe_int (nomark _)) (pe_lst (pa_cons (pe_tup (pa_cons pe_str (pa_cons (C8.pe_c (cal_l_window T) hr (by decide) (by rfl) (pa_cons (pv 0) pa_nil)) (pa_cons (pe_ix ix_tup (pe_c0 (cal_l_things T) hr (by decide) (by rfl)) (C8.pe_c (cal_l_dip T) hr (by decide) (by rfl) (pa_cons (pv 0) (pa_cons pe_int pa_nil))) (fun _ _ => rfl)) pa_nil)))) pa_nil)) (pe_lst pa_nil)))
      (pss_cons (ps_for PassesOwn.never rfl (pi_range1 (by rfl) T.n_range (pa_cons (C8.pe_c (cal_l_dip T) hr (by decide) (by rfl) (pa_cons (pv 0) (pa_cons (pv 1) pa_nil))) pa_nil)) (pg_name (i := 4) sc_l_deeds.nd rfl (Or.inl rfl)) (pss_cons (ps_set (i := 5) sc_l_deeds.nd rfl (Or.inl rfl) (C8.pe_c (cal_l_plain T) hr (by decide) (by rfl) (pa_cons (pv 0) (pa_cons (pv 2) pa_nil))))
      (pss_cons (ps_if (pt_cmpR op_eq (C8.pe_c (cal_l_dip T) hr (by decide) (by rfl) (pa_cons (pv 0) (pa_cons pe_int pa_nil))) pe_int (nomark _)) (pss_cons (ps_set (i := 6) sc_l_deeds.nd rfl (Or.inl rfl) (pe_ix ix_tup (pe_op op_catA (pe_slice sl_tupA (pe_c0 (cal_l_things T) hr (by decide) (by rfl)) po_none (po_some pe_int)) (pe_tup (pa_cons pe_non pa_nil))) (C8.pe_c (cal_l_dip T) hr (by decide) (by rfl) (pa_cons (pv 0) (pa_cons pe_int pa_nil))) (fun _ _ => rfl)))
      (pss_one (ps_set (i := 5) sc_l_deeds.nd rfl (Or.inl rfl) (pe_tup (pa_cons pe_str (pa_cons (C8.pe_c (cal_l_window T) hr (by decide) (by rfl) (pa_cons (pv 0) pa_nil)) (pa_cons (pv 6) (pa_cons (pv 5) pa_nil)))))))) pss_nil)
      (pss_one (ps_expr (pe_bm PySem.F.plainAttrs_list PySem.F.slot_list_append PySem.F.type_list_append mt_append (pv 3) (pa_cons (pv 5) pa_nil)))))))
      (pss_one (ps_ret (pe_callTy call_tuple_of (by rfl) T.n_tuple boot_tuple (pa_cons (pe_slice sl_list (pv 3) po_none (po_some (pv 1))) pa_nil)))))), ?_⟩
    have z1 : 1 ≤ sizeLine := by decide
    have z3 : 3 ≤ sizeLine := by decide
    have z4 : 4 ≤ sizeLine := by decide
    have main : ∀ (C : VK), (∀ H1 F us hd, Sx p H H1 → H F = none → PotAt (n + 3) H1 p → H1 F = some (.lst us) → IxD H1 us hd → (hd = [] ∨ ∃ f t, hd = [.pl (.peg f t)] ∧ goodT t) → C (.ref F) H1) →
        (tIf (tTest (tOp (rI0 fun i j => V.bl (decide (j < i))) (tCall spDip [] C8.E0 (tCons (tVar 0) (tCons (tC (V.int 5)) tNil))) (tC (V.int 0)))) (tLst (tCons (tTup (tCons (tC (V.str (Str.ofString "peg"))) (tCons (tCall spWin [] C8.E0 (tCons (tVar 0) tNil)) (tCons (tOp (rIxT K) (tCall spThings [] C8.E0 tNil) (tCall spDip [] C8.E0 (tCons (tVar 0) (tCons (tC (V.int 3)) tNil)))) tNil)))) tNil)) (tLst tNil)) (L2.start N_l_deeds [V.ref p, V.int 6, V.int 3]) H C := fun C kc => by
      refine ⟨_, rfl, p, 5, n, rfl, hp, by omega, by decide, by decide, fun H1 r s1 hp1 r0 r1 => ?_⟩
      refine ⟨_, _, rfl, rfl, _, rfl, ?_⟩
      by_cases c0 : 0 < r
      · refine iteTd (decide_eq_true c0) ?_
        refine ⟨_, rfl, p, n + 1, rfl, hp1, by omega, fun H2 f s2 hp2 => ?_⟩
        have s2 := s1.trans s2
        refine ⟨rfl, fun B hB => ?_⟩
        refine ⟨_, rfl, p, 3, n + 2, rfl, hp2.mono (Same.new hB), by omega, by decide, by decide, fun H3 r3 s3 hp3 r30 r31 => ?_⟩
        have hB3 := s3 B _ (hp2.ne hB) upd_same
        replace s3 : Sx p H H3 := (sx_new s2 hB).trans s3
        obtain ⟨t, ht, gt⟩ := label_of r30 r31
        refine ⟨B, _, _, _, rfl, rfl, SqT.of hB3, ht, z3, fun a ha => ?_⟩
        have e4 : Same H3 (upd H3 a (.tup [.str "peg", .str (wS f), .str t])) := Same.new ha
        have ha4 : upd H3 a (.tup [.str "peg", .str (wS f), .str t]) a = some (.tup (pdV (.peg f t))) := upd_same
        generalize upd H3 a (.tup [.str "peg", .str (wS f), .str t]) = H4 at e4 ha4
        have s4 : Sx p H H4 := fun b u n z => e4 b u (s3 b u n z)
        have hp4 := hp3.mono e4
        refine ⟨z1, fun F hF => ?_⟩
        have e5 : Same H4 (upd H4 F (.lst [.ref a])) := Same.new hF
        exact kc _ F [.ref a] [.pl (.peg f t)] (sx_new s4 hF) (fresh_back s4 hp4 hF) (hp4.mono e5) upd_same (IxD.one ⟨a, rfl, e5 _ _ ha4⟩) (.inr ⟨f, t, rfl, gt⟩)
      · refine iteFd (decide_eq_false c0) ?_
        refine ⟨Nat.zero_le _, fun F hF => ?_⟩
        have e5 : Same H1 (upd H1 F (.lst [])) := Same.new hF
        exact kc _ F [] [] (sx_new s1 hF) (fresh_back s1 hp1 hF) ((hp1.mono e5).more (by omega)) upd_same ⟨rfl, fun i x hx => nomatch hx⟩ (.inl rfl)
    refine main _ fun H1 F us hd s1 nF hp1 hF ix hhd => ?_
    have pF : F ≠ p := hp.ne nF
    have hdl : hd.length ≤ 1 := by rcases hhd with rfl | ⟨f, t, rfl, _⟩ <;> simp
    refine ⟨_, rfl, _, rfl, p, 6, n + 3, rfl, hp1, by omega, by decide, by decide, fun H2 r s2 hp2 r0 r1 => ?_⟩
    have hF2 := s2 F _ pF hF
    have ix2 := ix.pot hp1 s2
    replace s2 := s1.trans s2
    refine ⟨_, rfl, by omega, by omega, for_it walk_range (fun i σ' H' => Sx p H H' ∧ PotAt (n + 4 + 10 * i) H' p ∧ (∃ us' es, H' F = some (.lst us') ∧ IxD H' us' (hd ++ es) ∧ es.length = i ∧ ∀ x ∈ es, deedOk x) ∧ ∃ x1 x2 x3, σ' = [some (.ref p), some (.int 6), some (.int 3), some (.ref F), x1, x2, x3]) ⟨s2, hp2, ⟨us, [], hF2, by rw [List.append_nil]; exact ix2, rfl, fun x hx => nomatch hx⟩, _, _, _, rfl⟩ (fun _ _ _ _ _ => trivial) ?_ ?_⟩
    · rintro i x1 σ' H3 H4 hi ⟨s3, hp3, ⟨us3, es, hF3, ix3, le, oe⟩, y1, y2, y3, rfl⟩ ⟨eH, rfl⟩
      have eH2 : H3 = H4 := eH.symm
      subst eH2
      refine ⟨_, rfl, _, rfl, p, n + 4 + 10 * i, rfl, hp3, by omega, fun H4 a x s4 hp4 ha ox => ?_⟩
      have hF4 := s4 F _ pF hF3
      have ix4 := ix3.pot hp3 s4
      replace s4 := s3.trans s4
      have lus : us3.length ≤ 6 := by
        have := ix3.1
        rw [List.length_append] at this
        omega
      have fin : ∀ H5 v y, Sx p H H5 → PotAt (n + 4 + 10 * (i + 1)) H5 p → H5 F = some (.lst us3) → IxD H5 us3 (hd ++ es) → DAt H5 v y → deedOk y →
          Sx p H (upd H5 F (.lst (us3 ++ [v]))) ∧ PotAt (n + 4 + 10 * (i + 1)) (upd H5 F (.lst (us3 ++ [v]))) p ∧ ∃ us' es', upd H5 F (.lst (us3 ++ [v])) F = some (.lst us') ∧ IxD (upd H5 F (.lst (us3 ++ [v]))) us' (hd ++ es') ∧ es'.length = i + 1 ∧ ∀ x ∈ es', deedOk x := fun H5 v y s5 hp5 hF5 ix5 dv oy => by
        have sF : Sx F H5 (upd H5 F (.lst (us3 ++ [v]))) := sx_upd
        refine ⟨fun b u ne z => ?_, hp5.put (Ne.symm pF) sF, us3 ++ [v], es ++ [y], upd_same, ?_, by rw [List.length_append, le]; rfl, fun x hx => ?_⟩
        · have : b ≠ F := fun e => by rw [e, nF] at z; cases z
          exact sF b u this (s5 b u ne z)
        · rw [← List.append_assoc]
          exact (ix5.put hF5 sF).app (IxD.one (dv.put hF5 sF))
        · rcases List.mem_append.mp hx with hx | hx
          · exact oe x hx
          · rw [List.mem_singleton] at hx
            subst hx
            exact oy
      refine ⟨_, rfl, p, 6, n + 4 + 10 * i + 6, rfl, hp4, by omega, by decide, by decide, fun H5 q s5 hp5 q0 q1 => ?_⟩
      have hF5 := s5 F _ pF hF4
      have ix5 := ix4.pot hp4 s5
      have da5 : DAt H5 (.ref a) (.pl x) := (show DAt H4 (.ref a) (.pl x) from ⟨a, rfl, ha⟩).pot hp4 s5
      replace s5 := s4.trans s5
      refine ⟨rfl, _, rfl, ?_⟩
      by_cases c0 : q = 0
      · refine iteTd (decide_eq_true (congrArg V.int c0)) ?_
        refine ⟨rfl, fun B hB => ?_⟩
        have e6 : Same H5 (upd H5 B (.tup thV)) := Same.new hB
        have hB6 : upd H5 B (.tup thV) B = some (.tup thV) := upd_same
        generalize upd H5 B (.tup thV) = H6 at e6 hB6
        refine ⟨_, rfl, B, thV, rfl, SqT.of hB6, fun hw => absurd hw.2 (by decide), fun _ B2 hB2 => ?_⟩
        have e7 : Same H6 (upd H6 B2 (.tup (thV.take 3))) := Same.new hB2
        have hB7 : upd H6 B2 (.tup (thV.take 3)) B2 = some (.tup (thV.take 3)) := upd_same
        show (fun (Hx : Hp) => _) (upd H6 B2 (.tup (cutV thV none (some ((3 : Nat) : Int)))))
        rw [cut_take _ _ (by decide)]
        generalize upd H6 B2 (.tup (thV.take 3)) = H7 at e7 hB7
        refine ⟨by decide, fun B3 hB3 => ?_⟩
        have e8 : Same H7 (upd H7 B3 (.tup [.non])) := Same.new hB3
        have hB8 : upd H7 B3 (.tup [.non]) B3 = some (.tup [.non]) := upd_same
        generalize upd H7 B3 (.tup [.non]) = H8 at e8 hB8
        refine ⟨B2, B3, _, _, rfl, rfl, SqT.of (e8 _ _ hB7), SqT.of hB8, by decide, fun z => absurd z (by decide), fun _ z => (by cases z), fun _ _ B4 hB4 => ?_⟩
        have e9 : Same H8 (upd H8 B4 (.tup (thV.take 3 ++ [.non]))) := Same.new hB4
        have hB9 : upd H8 B4 (.tup (thV.take 3 ++ [.non])) B4 = some (.tup (thV.take 3 ++ [.non])) := upd_same
        have nB := (((hp5.mono e6).mono e7).mono e8).ne hB4
        generalize upd H8 B4 (.tup (thV.take 3 ++ [.non])) = H9 at e9 hB9
        have e59 : Same H5 H9 := ((e6.trans e7).trans e8).trans e9
        have s9 : Sx p H H9 := fun b u n z => e59 b u (s5 b u n z)
        have hp9 := hp5.mono e59
        refine ⟨_, rfl, p, 4, n + 4 + 10 * i + 7, rfl, hp9, by omega, by decide, by decide, fun H10 q2 s10 hp10 q20 q21 => ?_⟩
        have hB10 := s10 B4 _ nB hB9
        have hF10 := s10 F _ pF (e59 _ _ hF5)
        have ix10 := (ix5.mono e59).pot hp9 s10
        have da10 := (da5.mono e59).pot hp9 s10
        replace s10 := s9.trans s10
        have pick : ∃ wh : Option Str, atI (thV.take 3 ++ [.non]) q2 = some (whatV wh) ∧ ∀ t, wh = some t → goodT t := by
          have : q2 = 0 ∨ q2 = 1 ∨ q2 = 2 ∨ q2 = 3 := by omega
          rcases this with rfl | rfl | rfl | rfl
          · exact ⟨some "a", rfl, fun t e => by cases e; exact .inl rfl⟩
          · exact ⟨some "sock", rfl, fun t e => by cases e; exact .inr (.inl rfl)⟩
          · exact ⟨some "zzzzzzzz", rfl, fun t e => by cases e; exact .inr (.inr (.inl rfl))⟩
          · exact ⟨none, rfl, fun t e => nomatch e⟩
        obtain ⟨wh, hwh, gw⟩ := pick
        refine ⟨B4, _, _, _, rfl, rfl, SqT.of hB10, hwh, ?_⟩
        refine ⟨_, rfl, p, n + 4 + 10 * i + 8, rfl, hp10, by omega, fun H11 f s11 hp11 => ?_⟩
        have hF11 := s11 F _ pF hF10
        have ix11 := ix10.pot hp10 s11
        have da11 := da10.pot hp10 s11
        replace s11 := s10.trans s11
        refine ⟨_, rfl, _, rfl, z4, fun G hG => ?_⟩
        have e12 : Same H11 (upd H11 G (.tup [.str "when", .str (wS f), whatV wh, .ref a])) := Same.new hG
        have hG12 : upd H11 G (.tup [.str "when", .str (wS f), whatV wh, .ref a]) G = some (.tup [.str "when", .str (wS f), whatV wh, .ref a]) := upd_same
        generalize upd H11 G (.tup [.str "when", .str (wS f), whatV wh, .ref a]) = H12 at e12 hG12
        obtain ⟨a', ea, ha12⟩ := da11.mono e12
        cases ea
        obtain ⟨f1, f2, f3⟩ := fin H12 (.ref G) (.whn f wh x) (fun b u n z => e12 b u (s11 b u n z)) ((hp11.mono e12).more (by omega)) (e12 _ _ hF11) (ix11.mono e12) ⟨G, a, rfl, hG12, ha12⟩ ⟨gw, ox⟩
        refine ⟨_, rfl, .inl ⟨rfl, _, SqL.of (e12 _ _ hF11)⟩, _, rfl, F, us3, _, rfl, rfl, e12 _ _ hF11, by rw [sizeLine_eq]; omega, f1, f2, f3, _, _, _, rfl⟩
      · refine iteFd (decide_eq_false fun e => c0 (V.int.inj e)) ?_
        obtain ⟨f1, f2, f3⟩ := fin H5 (.ref a) (.pl x) s5 (hp5.more (by omega)) hF5 ix5 da5 ox
        refine ⟨_, rfl, .inl ⟨rfl, _, SqL.of hF5⟩, _, rfl, F, us3, _, rfl, rfl, hF5, by rw [sizeLine_eq]; omega, f1, f2, f3, _, _, _, rfl⟩
    · rintro σ' H3 ⟨s3, hp3, ⟨us3, es, hF3, ix3, le, oe⟩, y1, y2, y3, rfl⟩
      have hl := ix3.1
      rw [List.length_append] at hl
      have le5 : es.length ≤ 5 := by omega
      obtain ⟨pk, l6⟩ := POk.made hhd oe le5
      refine ⟨_, rfl, _, rfl, _, rfl, F, us3, rfl, SqL.of hF3, fun S hS => ?_⟩
      show (fun (Hx : Hp) => _) (upd H3 S (.lst (cutV us3 none (some ((6 : Nat) : Int)))))
      rw [cut_all _ _ (by omega)]
      have e4 : Same H3 (upd H3 S (.lst us3)) := Same.new hS
      have hS4 : upd H3 S (.lst us3) S = some (.lst us3) := upd_same
      generalize upd H3 S (.lst us3) = H4 at e4 hS4
      refine ⟨S, us3, rfl, .inl ⟨SqL.of hS4, fun R hR => ?_⟩⟩
      have e5 : Same H4 (upd H4 R (.tup us3)) := Same.new hR
      have e35 := e4.trans e5
      exact k _ (.ref R) (hd ++ es) (fun b u n z => e35 b u (s3 b u n z)) ((hp3.mono e35).more (by omega)) ((ix3.mono e35).ds (SqT.of upd_same)) pk l6
end
end Rln
end
section
set_option Elab.async false
set_option linter.all false
set_option maxRecDepth 100000
set_option maxHeartbeats 4000000
namespace Rln
open PySem PySem.Spec PyProof.Rows L2
section
variable {P : Program} {w : World} {K : PySem.W.Frag} {mg : Str → Option Value} {base : Heap}
abbrev N_l_inner : List Str := ["_law_deed"]
theorem sc_l_inner : FnScope N_l_inner ["_law_deed"] (defScope s_l_inner) := ⟨rfl, rfl, rfl, by decide +kernel, rfl, by decide +kernel, by decide +kernel⟩
def spLInner : Sp := fun vs H Q _ => ∃ v x, vs = [v] ∧ DAt H v x ∧ ∀ a, H a = some (.tup (pdV x.inner)) → Q (.ref a) H
theorem cal_l_inner (T : Tx K mg) : Cal P w K mg base 1 "_law_inner" spLInner [] := by
  refine calD T.f_l_inner T.g__law_inner sc_l_inner (fun vs H Q E h => ?_) (fun _ _ _ _ _ _ us hl => match us, hl with | [_], _ => rfl) (fun cdv A outer s H vs Q E hr h => ?_)
  · obtain ⟨v, x, rfl, _⟩ := h
    rfl
  · obtain ⟨v, x, rfl, hx, k⟩ := h
    refine ⟨_, (pss_one (ps_ret (pe_ifExp (pt_cmpR op_eq (pe_ix ix_tup (pv 0) pe_int (fun _ _ => rfl)) pe_str (nomark _)) (pe_ix ix_tup (pv 0) pe_int (fun _ _ => rfl)) (pv 0)))), ?_⟩
    cases x with
    | pl p =>
      obtain ⟨a, rfl, ha⟩ := hx
      have w0 : atI (pdV p) 0 = some (.str (pdW p)) := by cases p <;> rfl
      exact ⟨_, rfl, a, _, _, _, rfl, rfl, SqT.of ha, w0, rfl, _, rfl, iteFd (w_when p) ⟨_, rfl, k a ha⟩⟩
    | whn f wh p =>
      obtain ⟨a, b, rfl, ha, hb⟩ := hx
      exact ⟨_, rfl, a, _, _, _, rfl, rfl, SqT.of ha, rfl, rfl, _, rfl, iteTd (by decide +kernel) ⟨_, rfl, a, _, _, _, rfl, rfl, SqT.of ha, rfl, k b hb⟩⟩
/-- Distances() read: what is behind it -/
theorem dist_read0 (T : Tx K mg) {H : Hp} {x dx : Addr} (hx : H x = none) (hdx : H dx = none) {C : VK} (k : ∀ H', Same H H' → SetAt K H' (.ref x) (fun _ => false) → C .non H') :
    spDistI K [.ref x, .int 1, .ref (He.dflAt ("Distances", some "__init__") 1 K), .ref (He.dflAt ("Distances", some "__init__") 2 K)] (upd (upd H dx (.own x)) x (.ins (cDist K) dx [])) C C8.E0 := by
  have up : Same H (upd (upd H dx (.own x)) x (.ins (cDist K) dx [])) := fun b u z => by
    rw [upd_ne (ne_of_none z hx), upd_ne (ne_of_none z hdx)]
    exact z
  refine ⟨x, dx, _, _, _, rfl, upd_same, .inr ⟨1, [], [], rfl, by decide, T.d_Dist1 _, T.d_Dist2 _, List.nodup_nil, fun c hc => (by cases hc), List.nodup_nil, fun c hc => (by cases hc), fun H9 s9 hs9 => ?_⟩⟩
  exact k H9 (Sx.made s9 hx hdx) (hs9.congr fun d hd => by simp)
/-- values, each the set of its place -/
def SetsAt (K : PySem.W.Frag) (H : Hp) (us : List V) (Ss : List (Int → Bool)) : Prop := us.length = Ss.length ∧ ∀ (i : Nat) S, Ss[i]? = some S → ∃ u, us[i]? = some u ∧ SetAt K H u S
theorem SetsAt.mono {H H' : Hp} {us : List V} {Ss : List (Int → Bool)} (e : Same H H') (h : SetsAt K H us Ss) : SetsAt K H' us Ss := ⟨h.1, fun i S hS => by
  obtain ⟨u, h1, h2⟩ := h.2 i S hS
  exact ⟨u, h1, h2.mono e⟩⟩
theorem _root_.L2.Same.sql {H H' : Hp} {a : Addr} {xs : List V} (e : Same H H') (h : SqL K H a xs) : SqL K H' a xs := by
  rcases h with (h | ⟨o, h⟩) | h
  · exact .inl (.inl (e _ _ h))
  · exact .inl (.inr ⟨o, e _ _ h⟩)
  · exact .inr h
abbrev N_l_all : List Str := ["_law_sets", "_law_found", "_law_one"]
theorem sc_l_all : FnScope N_l_all ["_law_sets"] (defScope s_l_all) := ⟨rfl, rfl, rfl, by decide +kernel, rfl, by decide +kernel, by decide +kernel⟩
def spLAll (K : PySem.W.Frag) : Sp := fun vs H Q _ => ∃ A us Ss, vs = [.ref A] ∧ SqL K H A us ∧ SetsAt K H us Ss ∧ ∀ H' r, Same H H' → SetAt K H' r (fun d => Ss.any fun S => S d) → Q r H'
theorem cal_l_all (T : Tx K mg) : Cal P w K mg base 9 "_law_all" (spLAll K) [] := by
  refine calD T.f_l_all T.g__law_all sc_l_all (fun vs H Q E h => ?_) (fun _ _ _ _ _ _ us hl => match us, hl with | [_], _ => rfl) (fun cdv A outer s H vs Q E hr h => ?_)
  · obtain ⟨A, us, Ss, rfl, _⟩ := h
    rfl
  · obtain ⟨A, us, Ss, rfl, hA, hS, k⟩ := h
    refine ⟨_, (pss_cons (ps_set (i := 1) sc_l_all.nd rfl (Or.inl rfl) (pe_mk0 (mak_Dist0 T) hr (by decide) (by rfl)))
      (pss_cons (ps_for PassesOwn.never rfl (pi_list (pv 0)) (pg_name (i := 2) sc_l_all.nd rfl (Or.inl rfl)) (pss_one (ps_set (i := 1) sc_l_all.nd rfl (Or.inl rfl) (pe_op (op_own (op := .BitOr) (met_or T) T.sf_Dist (hr.mono (by decide))) (pv 1) (pv 2)))))
      (pss_one (ps_ret (pv 1))))), ?_⟩
    intro x dx hx hdx ne
    refine dist_read0 T hx hdx fun H1 e1 hs1 => ⟨rfl, ?_⟩
    refine ⟨_, rfl, A, rfl, ⟨us, e1.sql hA⟩, for_it (walk_list (xs := us)) (fun i σ' H' => Same H H' ∧ ∃ v x2, SetAt K H' v (fun d => (Ss.take i).any fun S => S d) ∧ σ' = [some (.ref A), some v, x2]) ⟨e1, _, _, hs1, rfl⟩ (fun i σ' H' _ h => h.1.sql hA) ?_ ?_⟩
    · rintro i x1 σ' H2 H3 hi ⟨e2, v, y2, hv, rfl⟩ ⟨eH, hx1⟩
      have eH2 : H2 = H3 := eH.symm
      subst eH2
      have hid : i < Ss.length := hS.1 ▸ hi
      obtain ⟨u, hu, hs⟩ := hS.2 i Ss[i] (List.getElem?_eq_getElem hid)
      have ex : u = x1 := Option.some.inj (hu.symm.trans hx1)
      subst ex
      have hs2 := hs.mono e2
      refine ⟨_, rfl, _, rfl, SetAt.two hv hs2, v, u, _, _, rfl, hv, hs2, fun H4 r e4 hr4 => ⟨e2.trans e4, r, _, hr4.congr fun d _ => ?_, rfl⟩⟩
      rw [List.take_succ_eq_append_getElem hid, List.any_append]
      simp
    · rintro σ' H2 ⟨e2, v, y2, hv, rfl⟩
      rw [hS.1, List.take_length] at hv
      exact ⟨_, rfl, k H2 v e2 hv⟩
end
end Rln
end
section
set_option Elab.async false
set_option linter.all false
set_option maxRecDepth 100000
set_option maxHeartbeats 4000000
namespace Rln
open PySem PySem.Spec PyProof.Rows L2
theorem ds_drop {K : PySem.W.Frag} {H : Hp} {v : V} {ds : List (Deed Str)} {Q : VK} (hD : DsAt K H v ds) (k : Nat) (hk : k ≤ ds.length) (q : ∀ H' u, Same H H' → DsAt K H' u (ds.drop k) → Q u H') : rSlA K v (some (k : Int)) none H Q := by
  obtain ⟨a, us, rfl, hs, hi⟩ := hD.ix
  have hl := hi.1
  refine ⟨a, us, rfl, hs, fun hw => ?_, fun _ p hp => ?_⟩
  · have : k = 0 := by
      have := hw.1
      rw [sIx_nat _ _ _ (by omega)] at this
      exact this
    subst this
    exact q H _ (fun _ _ e => e) (by rw [List.drop_zero]; exact hi.ds hs)
  · rw [cut_drop _ _ (by omega)]
    have e : Same H (upd H p (.tup (us.drop k))) := Same.new hp
    exact q _ _ e (((hi.mono e).drop k).ds (SqT.of upd_same))
theorem ds_cat {K : PySem.W.Frag} {H : Hp} {u v : V} {ds es : List (Deed Str)} {Q : VK} (hD : DsAt K H u ds) (hE : DsAt K H v es) (hl : (ds ++ es).length ≤ 20) (q : ∀ H' r, Same H H' → DsAt K H' r (ds ++ es) → Q r H') : rCatA K u v H Q := by
  obtain ⟨a, us, rfl, hs, hi⟩ := hD.ix
  obtain ⟨b, vs, rfl, hs', hi'⟩ := hE.ix
  rw [List.length_append] at hl
  refine ⟨a, b, us, vs, rfl, rfl, hs, hs', ?_, fun z => ?_, fun _ z => ?_, fun _ _ r hr' => ?_⟩
  · have := hi.1
    have := hi'.1
    rw [sizeLine_eq]
    omega
  · have : ds = [] := List.length_eq_zero_iff.mp (by rw [← hi.1, z]; rfl)
    subst this
    exact q H _ (fun _ _ e => e) hE
  · have : es = [] := List.length_eq_zero_iff.mp (by rw [← hi'.1, z]; rfl)
    subst this
    exact q H _ (fun _ _ e => e) (by rw [List.append_nil]; exact hD)
  · have e : Same H (upd H r (.tup (us ++ vs))) := Same.new hr'
    exact q _ _ e (((hi.mono e).app (hi'.mono e)).ds (SqT.of upd_same))
theorem noPart {σ : L2.St} {H : Hp} {Q : Option Int → Hp → Prop} (h : Q none H) : tNoPart σ H Q := h
section
variable {P : Program} {w : World} {K : PySem.W.Frag} {mg : Str → Option Value} {base : Heap}
/-- Plan(..) read, after an allocation -/
theorem plan_read {H : Hp} {x dx : Addr} (hx : H x = none) (hdx : H dx = none) {v : V} {ds : List (Deed Str)} {C : VK} (hD : DsAt K H v ds) (ho : ∀ y ∈ ds, deedOk y) (hl : ds.length ≤ 12) (k : ∀ H', Same H H' → PlanAt K H' (.ref x) ds → C .non H') :
    spPlanI K [.ref x, v] (upd (upd H dx (.own x)) x (.ins (cPlan K) dx [])) C C8.E0 := by
  have up : Same H (upd (upd H dx (.own x)) x (.ins (cPlan K) dx [])) := fun b u z => by
    rw [upd_ne (ne_of_none z hx), upd_ne (ne_of_none z hdx)]
    exact z
  exact ⟨x, dx, v, ds, rfl, upd_same, hD.mono up, ho, hl, fun H2 s2 hp => k H2 (Sx.made s2 hx hdx) hp⟩
theorem PlanAt.mono' {H H' : Hp} {v : V} {ds : List (Deed Str)} (e : Same H H') (h : PlanAt K H v ds) : PlanAt K H' v ds := h.mono e
theorem PlanAt.two {H : Hp} {u v : V} {ds es : List (Deed Str)} (a : PlanAt K H u ds) (b : PlanAt K H v es) : Two (cPlan K) u v H := by
  obtain ⟨p, dx, _, rfl, hp, _⟩ := a
  obtain ⟨q, dy, _, rfl, hq, _⟩ := b
  exact ⟨p, q, dx, dy, _, _, rfl, rfl, hp, hq⟩
theorem deed_kind {H : Hp} {v : V} {x : Deed Str} (h : DAt H v x) : ∃ a xs z, v = .ref a ∧ H a = some (.tup xs) ∧ atI xs 0 = some (.str z) := by
  cases x with
  | pl p =>
    obtain ⟨a, rfl, ha⟩ := h
    exact ⟨a, _, pdW p, rfl, ha, by cases p <;> rfl⟩
  | whn f wh p =>
    obtain ⟨a, b, rfl, ha, hb⟩ := h
    exact ⟨a, _, _, rfl, ha, rfl⟩
abbrev N_l_plan : List Str := ["_law_deeds_here", "_law_size", "_law_spot", "_law_way", "_law_deed"]
theorem sc_l_plan : FnScope N_l_plan ["_law_deeds_here"] (defScope s_l_plan) := ⟨rfl, rfl, rfl, by decide +kernel, rfl, by decide +kernel, by decide +kernel⟩
def spLPlan (K : PySem.W.Frag) : Sp := fun vs H Q _ => ∃ v ds, vs = [v] ∧ DsAt K H v ds ∧ (∀ x ∈ ds, deedOk x) ∧ ds.length ≤ 6 ∧ ∀ H' r, Same H H' → PlanAt K H' r ds → Q r H'
theorem cal_l_plan (T : Tx K mg) : Cal P w K mg base 8 "_law_plan" (spLPlan K) [] := by
  refine calD T.f_l_plan T.g__law_plan sc_l_plan (fun vs H Q E h => ?_) (fun _ _ _ _ _ _ us hl => match us, hl with | [_], _ => rfl) (fun cdv A outer s H vs Q E hr h => ?_)
  · obtain ⟨v, ds, rfl, _⟩ := h
    rfl
  · obtain ⟨v, ds, rfl, hD, ho, hl, k⟩ := h
    refine ⟨_, (pss_cons (ps_par (i := 1) (j := 2) (by rfl) sc_l_plan.nd rfl rfl (by decide) rfl rfl (pa_cons (pe_callB call_len_seq (by rfl) T.n_len (by decide +kernel) (pa_cons (pv 0) pa_nil)) (pa_cons (pe_op op_fdiv (pe_callB call_len_seq (by rfl) T.n_len (by decide +kernel) (pa_cons (pv 0) pa_nil)) pe_int) pa_nil)) (by rfl))
      (pss_cons (ps_set (i := 3) sc_l_plan.nd rfl (Or.inl rfl) (pe_op op_mod (pe_callTy call_int1 (by rfl) T.n_int boot_int (pa_cons (pe_op op_add (pv 1) (pe_callB call_len_seq (by rfl) T.n_len (by decide +kernel) (pa_cons (pe_lc (own := [("_law_deed", 4)]) rfl sc_l_plan.nd (pi_tup (pv 0)) (blkOk_by (N := N_l_plan) (sc := defScope s_l_plan) (own := [("_law_deed", 4)]) (by decide +kernel)) (fun _ _ _ _ _ => (pg_name (i := 4) sc_l_plan.nd rfl (Or.inl rfl))) (fun _ _ _ _ _ => pts_one (pt_cmpR op_eq (pe_ix (ix_tupB (K := K) rfl) (pv 4) pe_int (fun _ _ => rfl)) pe_str (nomark _))) (fun _ _ _ _ _ => (pv 4))) pa_nil))) pa_nil)) pe_int))
      (pss_cons (ps_if (pt_cmpR op_eq (pv 3) pe_int (nomark _)) (pss_one (ps_ret (pe_op (op_own (op := .Add) (met_add T) T.sf_Plan (hr.mono (by decide))) (C8.pe_mk (mak_Plan1 T) hr (by decide) (by rfl) (pa_cons (pe_slice sl_tupA (pv 0) po_none (po_some (pv 2))) pa_nil)) (C8.pe_mk (mak_Plan1 T) hr (by decide) (by rfl) (pa_cons (pe_slice sl_tupA (pv 0) (po_some (pv 2)) po_none) pa_nil))))) pss_nil)
      (pss_cons (ps_if (PW.pt (pw_and (pt_cmpR op_eq (pv 3) pe_int (nomark _)) (pw_and1 (pt_cmpR op_lt (pv 1) pe_int (nomark _))))) (pss_one (ps_ret (C8.pe_mt (met_without T) hr (by decide) (C8.pe_mk (mak_Plan1 T) hr (by decide) (by rfl) (pa_cons (pe_op op_catA (pe_op op_catA (pe_slice sl_tupA (pv 0) po_none (po_some (pv 2))) (pe_tup (pa_cons (pe_tup (pa_cons pe_str (pa_cons pe_str pa_nil))) pa_nil))) (pe_slice sl_tupA (pv 0) (po_some (pv 2)) po_none)) pa_nil)) (pa_cons (pe_tup (pa_cons (pv 2) pa_nil)) pa_nil)))) pss_nil)
      (pss_cons (ps_if (PW.pt (pw_and (pt_cmpR op_eq (pv 3) pe_int (nomark _)) (pw_and1 (pt_cmpR op_gt (pv 1) pe_int (nomark _))))) (pss_one (ps_ret (C8.pe_mt (met_exch T) hr (by decide) (C8.pe_mk (mak_Plan1 T) hr (by decide) (by rfl) (pa_cons (pe_op op_catA (pe_tup (pa_cons (pe_ix ix_tup (pv 0) pe_int (fun _ _ => rfl)) (pa_cons (pe_ix ix_tup (pv 0) pe_int (fun _ _ => rfl)) pa_nil))) (pe_slice sl_tupA (pv 0) (po_some pe_int) po_none)) pa_nil)) (pa_cons pe_int pa_nil)))) pss_nil)
      (pss_one (ps_ret (C8.pe_c (cal_read_plan T) hr (by decide) (by rfl) (pa_cons (C8.pe_c (cal_plan_text T) hr (by decide) (by rfl) (pa_cons (C8.pe_mk (mak_Plan1 T) hr (by decide) (by rfl) (pa_cons (pv 0) pa_nil)) pa_nil)) pa_nil))))))))), ?_⟩
    obtain ⟨a, us, rfl, hs, hi⟩ := hD.ix
    have hul := hi.1
    refine ⟨_, rfl, a, us, rfl, .inr hs, _, rfl, a, us, rfl, .inr hs, _, _, rfl, rfl, ⟨by decide, by decide⟩, _, _, rfl, ?_⟩
    refine ⟨_, rfl, _, rfl, a, rfl, ⟨_, hs⟩, fun D hDn => lc_it (walk_tup (xs := us)) (fun i H' => Same H H' ∧ ∃ ys, H' D = some (.lst ys) ∧ ys.length ≤ i) ⟨Same.new hDn, [], upd_same, Nat.le_refl _⟩ (fun i H' _ h => h.1.sqt hs) ?_ ?_⟩
    · rintro i x1 H4 H5 hi' ⟨e4, ys, hl4, ly⟩ ⟨eH, hx⟩
      have eH2 : H4 = H5 := eH.symm
      subst eH2
      have hid : i < ds.length := hul ▸ hi'
      obtain ⟨du, hdu, hd⟩ := hi.2 i ds[i] (List.getElem?_eq_getElem hid)
      have ex : du = x1 := Option.some.inj (hdu.symm.trans hx)
      subst ex
      obtain ⟨a', xs, z, rfl, ha', h0⟩ := deed_kind (hd.mono e4)
      refine ⟨rfl, _, rfl, a', _, _, _, rfl, rfl, SqT.of ha', h0, rfl, _, rfl, ?_⟩
      cases hb : decide (V.str z = V.str (Str.ofString "pull")) with
      | false => exact iteF ⟨e4, ys, hl4, by omega⟩
      | true =>
        refine iteT ⟨_, rfl, ys, hl4, by rw [sizeLine_eq]; omega, e4.put hDn, ys ++ [.ref a'], upd_same, by rw [List.length_append, List.length_singleton]; omega⟩
    · rintro H1 ⟨e1, ys, hl1, ly⟩
      refine ⟨D, ys, rfl, .inl (SqL.of hl1), _, _, rfl, rfl, .inl ⟨_, rfl, _, _, rfl, rfl, (by decide : (0 : Int) < 4), ?_⟩⟩
      have hD1 := hD.mono e1
      have ho12 : ds.length ≤ 12 := by omega
      have hsp : (us.length : Int) / 2 = ((us.length / 2 : Nat) : Int) := rfl
      have sle : us.length / 2 ≤ ds.length := by omega
      have z1 : 1 ≤ sizeLine := by decide
      have z2 : 2 ≤ sizeLine := by decide
      refine ⟨_, rfl, rfl, _, rfl, ?_⟩
      by_cases c1 : ((us.length : Int) + (ys.length : Int)) % 4 = 1
      · refine iteTd (decide_eq_true (congrArg V.int c1)) ?_
        refine ⟨_, rfl, _, rfl, _, rfl, ?_⟩
        refine ds_slice hD1 (us.length / 2) sle fun H2 u2 e2 hD2 => ?_
        intro x dx hx hdx ne
        refine plan_read hx hdx hD2 (fun y hy => ho y (List.mem_of_mem_take hy)) (by rw [List.length_take]; omega) fun H3 e3 hP3 => ⟨rfl, ?_⟩
        refine ⟨_, rfl, _, rfl, _, rfl, ?_⟩
        refine noPart (ds_drop ((hD1.mono e2).mono e3) (us.length / 2) sle fun H4 u4 e4 hD4 => ?_)
        intro x' dx' hx' hdx' ne'
        refine plan_read hx' hdx' hD4 (fun y hy => ho y (List.mem_of_mem_drop hy)) (by rw [List.length_drop]; omega) fun H5 e5 hP5 => ⟨rfl, ?_⟩
        have hP35 := (hP3.mono e4).mono e5
        refine ⟨PlanAt.two hP35 hP5, _, _, _, _, rfl, hP35, hP5, ?_, ?_, fun H6 r e6 hP6 => ?_⟩
        · rw [List.take_append_drop]; exact ho
        · rw [List.take_append_drop]; exact ho12
        · rw [List.take_append_drop] at hP6
          exact k H6 r (((((e1.trans e2).trans e3).trans e4).trans e5).trans e6) hP6
      refine iteFd (decide_eq_false fun e => c1 (V.int.inj e)) ?_
      refine ⟨_, rfl, rfl, _, rfl, ?_⟩
      have last : ∀ (C : VK), (∀ H' r, Same H1 H' → PlanAt K H' r ds → C r H') → ∀ x dx, H1 x = none → H1 dx = none → dx ≠ x → spPlanI K [.ref x, .ref a] (upd (upd H1 dx (.own x)) x (.ins (cPlan K) dx [])) (fun v H2 => v = .non ∧ spPlText K [.ref x] H2 (fun v H3 => spReadPl K [v] H3 C C8.E0) C8.E0) C8.E0 := fun C kc x dx hx hdx ne =>
        plan_read hx hdx hD1 ho ho12 fun H2 e2 hP2 => ⟨rfl, _, ds, rfl, hP2, ho, ho12, fun H3 e3 => ⟨ds, rfl, ho, ho12, fun H4 r e4 hP4 => kc H4 r ((e2.trans e3).trans e4) hP4⟩⟩
      have last1 := last Q fun H' r e h => k H' r (e1.trans e) h
      by_cases c2 : ((us.length : Int) + (ys.length : Int)) % 4 = 2
      · refine iteTd (decide_eq_true (congrArg V.int c2)) ?_
        refine ⟨_, rfl, _, _, rfl, rfl, _, rfl, iteTd (decide_eq_true (by omega)) ?_⟩
        refine ⟨_, rfl, _, rfl, _, rfl, ?_⟩
        refine ds_slice hD1 (us.length / 2) sle fun H2 u2 e2 hD2 => ?_
        refine ⟨by decide, fun q hq => ?_⟩
        have e3 : Same H2 (upd H2 q (.tup [.str "look", .str "far"])) := Same.new hq
        have hq3 : upd H2 q (.tup [.str "look", .str "far"]) q = some (.tup (pdV (.look true))) := upd_same
        generalize upd H2 q (.tup [.str "look", .str "far"]) = H3 at e3 hq3
        refine ⟨z1, fun q2 hq2 => ?_⟩
        have e4 : Same H3 (upd H3 q2 (.tup [.ref q])) := Same.new hq2
        have hB : DsAt K (upd H3 q2 (.tup [.ref q])) (.ref q2) [.pl (.look true)] := (IxD.one (x := .pl (.look true)) ⟨q, rfl, e4 _ _ hq3⟩).ds (SqT.of upd_same)
        generalize upd H3 q2 (.tup [.ref q]) = H4 at e4 hB
        have e24 := e3.trans e4
        have lt : (ds.take (us.length / 2)).length = us.length / 2 := by rw [List.length_take]; omega
        refine ds_cat (hD2.mono e24) hB (by rw [List.length_append, lt, List.length_singleton]; omega) fun H5 u5 e5 hD5 => ?_
        refine ⟨_, rfl, _, rfl, _, rfl, ?_⟩
        have e15 := (e2.trans e24).trans e5
        refine noPart (ds_drop (hD1.mono e15) (us.length / 2) sle fun H6 u6 e6 hD6 => ?_)
        have ll : (ds.take (us.length / 2) ++ [Deed.pl (PD.look true)] ++ ds.drop (us.length / 2)).length = ds.length + 1 := by
          rw [List.length_append, List.length_append, lt, List.length_singleton, List.length_drop]
          omega
        refine ds_cat (hD5.mono e6) hD6 (by rw [ll]; omega) fun H7 u7 e7 hD7 => ?_
        have ho7 : ∀ y ∈ ds.take (us.length / 2) ++ [Deed.pl (PD.look true)] ++ ds.drop (us.length / 2), deedOk y := fun y hy => by
          rcases List.mem_append.mp hy with hy | hy
          · rcases List.mem_append.mp hy with hy | hy
            · exact ho y (List.mem_of_mem_take hy)
            · rw [List.mem_singleton] at hy
              subst hy
              exact trivial
          · exact ho y (List.mem_of_mem_drop hy)
        have er : (ds.take (us.length / 2) ++ [Deed.pl (PD.look true)] ++ ds.drop (us.length / 2)).eraseIdx (us.length / 2) = ds := by
          rw [List.append_assoc, List.eraseIdx_append_of_length_le (by rw [lt]; exact Nat.le_refl _), lt, Nat.sub_self]
          exact List.take_append_drop _ _
        intro x dx hx hdx ne
        refine plan_read hx hdx hD7 ho7 (by rw [ll]; omega) fun H8 e8 hP8 => ⟨rfl, ?_⟩
        obtain ⟨p8, dx8, w8, ep, hp8, _⟩ := id hP8
        cases ep
        refine ⟨x, dx8, _, rfl, hp8, rfl, _, rfl, z1, fun I hI => ?_⟩
        have e9 : Same H8 (upd H8 I (.tup [.int ((us.length : Int) / 2)])) := Same.new hI
        refine ⟨.ref x, _, I, us.length / 2, rfl, hP8.mono e9, SqT.of upd_same, by rw [ll]; omega, by rw [ll]; omega, ho7, fun H10 r e10 hP10 => ?_⟩
        rw [er] at hP10
        exact k H10 r ((((((e1.trans e15).trans e6).trans e7).trans e8).trans e9).trans e10) hP10
      refine iteFd (decide_eq_false fun e => c2 (V.int.inj e)) (iteF ?_)
      refine ⟨_, rfl, rfl, _, rfl, ?_⟩
      by_cases c3 : ((us.length : Int) + (ys.length : Int)) % 4 = 3
      · refine iteTd (decide_eq_true (congrArg V.int c3)) ?_
        refine ⟨_, rfl, _, _, rfl, rfl, _, rfl, ?_⟩
        by_cases c4 : 1 < us.length
        · refine iteTd (decide_eq_true (by omega)) ?_
          cases ds with
          | nil => exact absurd hul (by simp only [List.length_nil]; omega)
          | cons d0 ds =>
          cases ds with
          | nil => exact absurd hul (by simp only [List.length_cons, List.length_nil]; omega)
          | cons d1 ds =>
          obtain ⟨ux, g1, dx0⟩ := hi.2 0 d0 rfl
          obtain ⟨uy, g2, dx1⟩ := hi.2 1 d1 rfl
          have ax : atI us 0 = some ux := atI_nat (j := 0) g1
          have ay : atI us 1 = some uy := atI_nat (j := 1) g2
          have hs1 := e1.sqt hs
          refine ⟨_, rfl, a, us, _, _, rfl, rfl, hs1, ay, _, rfl, a, us, _, _, rfl, rfl, hs1, ax, z2, fun q hq => ?_⟩
          have e2 : Same H1 (upd H1 q (.tup [uy, ux])) := Same.new hq
          have hB : DsAt K (upd H1 q (.tup [uy, ux])) (.ref q) ([d1] ++ [d0]) := ((IxD.one ((dx1.mono e1).mono e2)).app (IxD.one ((dx0.mono e1).mono e2))).ds (SqT.of upd_same)
          generalize upd H1 q (.tup [uy, ux]) = H2 at e2 hB
          refine ⟨_, rfl, _, rfl, ?_⟩
          refine noPart (ds_drop (hD1.mono e2) 2 (by simp only [List.length_cons]; omega) fun H3 u3 e3 hD3 => ?_)
          have l3 : ((d0 :: d1 :: ds).drop 2) = ds := rfl
          rw [l3] at hD3
          have lc : ds.length + 1 + 1 ≤ 6 := hl
          refine ds_cat (hB.mono e3) hD3 (by simp only [List.length_append, List.length_cons, List.length_nil]; omega) fun H4 u4 e4 hD4 => ?_
          have ho4 : ∀ y ∈ [d1] ++ [d0] ++ ds, deedOk y := fun y hy => ho y (by
            simp only [List.cons_append, List.nil_append, List.mem_cons] at hy ⊢
            rcases hy with h | h | h
            · exact .inr (.inl h)
            · exact .inl h
            · exact .inr (.inr h))
          intro x dx hx hdx ne
          refine plan_read hx hdx hD4 ho4 (by simp only [List.length_append, List.length_cons, List.length_nil]; omega) fun H5 e5 hP5 => ⟨rfl, ?_⟩
          obtain ⟨p5, dx5, w5, ep, hp5, _⟩ := id hP5
          cases ep
          refine ⟨x, dx5, _, rfl, hp5, rfl, .ref x, d1, d0, ds, rfl, hP5, by simp only [List.length_cons]; omega, ho4, fun H6 r e6 hP6 => ?_⟩
          exact k H6 r (((((e1.trans e2).trans e3).trans e4).trans e5).trans e6) hP6
        · refine iteFd (decide_eq_false (by omega)) ?_
          exact ⟨_, rfl, last1⟩
      · refine iteFd (decide_eq_false fun e => c3 (V.int.inj e)) (iteF ?_)
        exact ⟨_, rfl, last1⟩
end
end Rln
end
section
set_option Elab.async false
set_option linter.all false
set_option maxRecDepth 100000
set_option maxHeartbeats 4000000
namespace Rln
open PySem PySem.Spec PyProof.Rows L2
section
variable {P : Program} {w : World} {K : PySem.W.Frag} {mg : Str → Option Value} {base : Heap}
abbrev N_l_pot : List Str := ["_law_script", "_law_k", "_law_cell"]
theorem sc_l_pot : FnScope N_l_pot ["_law_script", "_law_k"] (defScope s_l_pot) := ⟨rfl, rfl, rfl, by decide +kernel, rfl, by decide +kernel, by decide +kernel⟩
def spLPot (K : PySem.W.Frag) : Sp := fun vs H Q _ => ∃ (A : Addr) (ns : List Int) (k : Nat), vs = [.ref A, .int k] ∧ SqL K H A (ns.map V.int) ∧ k < 2 ∧ ∀ H' p, Same H H' → H p = none → PotAt 0 H' p → Q (.ref p) H'
theorem cal_l_pot (T : Tx K mg) : Cal P w K mg base 1 "_law_pot" (spLPot K) [] := by
  refine calD T.f_l_pot T.g__law_pot sc_l_pot (fun vs H Q E h => ?_) (fun _ _ _ _ _ _ us hl => match us, hl with | [_, _], _ => rfl) (fun cdv A outer s H vs Q E hr h => ?_)
  · obtain ⟨A, ns, k, rfl, _⟩ := h
    rfl
  · obtain ⟨A, ns, k, rfl, hA, hk, kk⟩ := h
    refine ⟨_, (pss_cons (ps_set (i := 2) sc_l_pot.nd rfl (Or.inl rfl) pe_int)
      (pss_cons (ps_if (pt_cmpR op_lt (pv 1) (pe_callB call_len_seq (by rfl) T.n_len (by decide +kernel) (pa_cons (pv 0) pa_nil)) (nomark _)) (pss_one (ps_set (i := 2) sc_l_pot.nd rfl (Or.inl rfl) (pe_callB call_abs (by rfl) T.n_abs (by decide +kernel) (pa_cons (pe_callTy call_int1 (by rfl) T.n_int boot_int (pa_cons (pe_ix ix_list (pv 0) (pv 1) (fun _ _ => rfl)) pa_nil)) pa_nil)))) pss_nil)
      (pss_one (ps_ret (pe_lst (pa_cons (pe_callB (call_max2 rfl) (by rfl) T.n_max (by decide +kernel) (pa_cons pe_int (pa_cons (pe_op op_sub (pv 2) (pe_op op_pow pe_int pe_int)) pa_nil))) (pa_cons (pe_op op_add (pe_op op_mod (pe_callTy call_int1 (by rfl) T.n_int boot_int (pa_cons (pv 2) pa_nil)) (pe_op op_add (pe_op op_pow pe_int pe_int) pe_int)) (pe_op op_mul pe_int (pv 1))) (pa_cons pe_int pa_nil)))))))), ?_⟩
    have p18 : CPow 10 18 := ⟨by decide, by decide, by decide⟩
    have p33 : CPow 10 33 := ⟨by decide, by decide, by decide⟩
    have m33 : (0 : Int) < 10 ^ Int.toNat 33 + 33 := by decide +kernel
    have z3 : 3 ≤ sizeLine := by decide
    have fin : ∀ c : Int, 0 ≤ c → ∀ p, H p = none → Q (.ref p) (upd H p (.lst [.int (if c - 10 ^ Int.toNat 18 > 0 then c - 10 ^ Int.toNat 18 else 0), .int (c % (10 ^ Int.toNat 33 + 33) + 524309 * (k : Int)), .int 0])) := fun c hc p hp => by
      refine kk _ p (Same.new hp) hp ⟨_, _, _, upd_same, ?_, ?_, ?_, Int.le_refl _, Int.le_refl _⟩
      · split <;> omega
      · have := Int.emod_nonneg c (show (10 ^ Int.toNat 33 + 33 : Int) ≠ 0 by decide +kernel)
        omega
      · have h1 := Int.emod_lt_of_pos c m33
        have h2 : (10 ^ Int.toNat 33 + 33 : Int) + 524309 * 2 < 2 ^ 200 := by decide +kernel
        omega
    refine ⟨_, rfl, _, rfl, A, _, rfl, .inl hA, _, _, rfl, rfl, _, rfl, ?_⟩
    by_cases c : k < (ns.map V.int).length
    · refine iteTd (decide_eq_true (by omega)) ?_
      have at1 : atI (ns.map V.int) (k : Int) = some (.int (ns[k]'(by rw [List.length_map] at c; exact c))) := atI_nat (j := k) (by rw [List.getElem?_map, List.getElem?_eq_getElem (by rw [List.length_map] at c; exact c)]; rfl)
      generalize (ns[k]'(by rw [List.length_map] at c; exact c)) = z at at1
      refine ⟨_, rfl, _, rfl, A, _, _, _, rfl, rfl, hA, at1, .inl ⟨_, rfl, _, rfl, ?_⟩⟩
      refine ⟨_, rfl, _, _, rfl, rfl, p18, _, _, rfl, rfl, _, _, rfl, _, rfl, .inl ⟨_, rfl, _, _, rfl, rfl, p33, _, _, rfl, rfl, _, _, rfl, rfl, m33, ?_⟩⟩
      refine ⟨_, rfl, _, _, rfl, rfl, .inl (by decide), _, _, rfl, rfl, z3, fin _ (by split <;> omega)⟩
    · refine iteFd (decide_eq_false (by omega)) ?_
      refine ⟨_, rfl, _, _, rfl, rfl, p18, _, _, rfl, rfl, _, _, rfl, _, rfl, .inl ⟨_, rfl, _, _, rfl, rfl, p33, _, _, rfl, rfl, _, _, rfl, rfl, m33, ?_⟩⟩
      refine ⟨_, rfl, _, _, rfl, rfl, .inl (by decide), _, _, rfl, rfl, z3, fin 0 (Int.le_refl _)⟩
end
end Rln
end
section
set_option Elab.async false
set_option linter.all false
set_option maxRecDepth 100000
set_option maxHeartbeats 4000000
namespace L2
open PySem PySem.Spec PyProof.Rows
theorem sl_listB {X : Cx} {K : PySem.W.Frag} (hK : X.K = K) : SlR X (rSlL K) := by
  subst hK
  exact sl_list
end L2
namespace Rln
open PySem PySem.Spec PyProof.Rows L2
/-- what a list of other things than bools changes not -/
def NoBl (ys : List V) : Prop := ∀ fl : List Bool, fl ≠ [] → fl.map V.bl ≠ ys
section
variable {K : PySem.W.Frag} {H H' : Hp} {D : Addr} {ys : List V}
theorem sqt_put {B : Addr} {xs : List V} (s : SqT K H B xs) (hl : H D = some (.lst ys)) (e : Sx D H H') : SqT K H' B xs := by
  have ne : ∀ {a : Addr} {o : HO}, H a = some o → (∀ zs, o ≠ .lst zs) → a ≠ D := fun {a o} ha hn z => by
    rw [z, hl] at ha
    exact hn _ (Option.some.inj ha).symm
  rcases s with (z | ⟨o, z⟩) | z
  · exact .inl (.inl (e _ _ (ne z (fun _ q => by cases q)) z))
  · exact .inl (.inr ⟨o, e _ _ (ne z (fun _ q => by cases q)) z⟩)
  · exact .inr z
theorem SetAt.put {v : V} {S : Int → Bool} (h : SetAt K H v S) (hl : H D = some (.lst ys)) (hy : NoBl ys) (e : Sx D H H') : SetAt K H' v S := by
  have ne : ∀ {a : Addr} {o : HO}, H a = some o → (∀ zs, o ≠ .lst zs) → a ≠ D := fun {a o} ha hn z => by
    rw [z, hl] at ha
    exact hn _ (Option.some.inj ha).symm
  obtain ⟨p, dx, u, fl, fx, rfl, h1, ⟨q, dy, A, B, C, rfl, h2, h3, h4⟩, cf, cx, hS⟩ := h
  have l1 := (D60_ne cf.d).1
  have nA : A ≠ D := fun z => by
    rw [z, hl] at h3
    have := Option.some.inj h3
    injection this with this
    exact hy fl (fun q => by rw [q] at l1; exact absurd l1 (by decide)) this.symm
  exact ⟨p, dx, .ref q, fl, fx, rfl, e _ _ (ne h1 (fun _ q => by cases q)) h1, ⟨q, dy, A, B, C, rfl, e _ _ (ne h2 (fun _ q => by cases q)) h2, e _ _ nA h3, sqt_put h4 hl e⟩, cf, cx, hS⟩
theorem PlanAt.put {v : V} {ds : List (Deed Str)} (h : PlanAt K H v ds) (hl : H D = some (.lst ys)) (e : Sx D H H') : PlanAt K H' v ds := by
  have ne : ∀ {a : Addr} {o : HO}, H a = some o → (∀ zs, o ≠ .lst zs) → a ≠ D := fun {a o} ha hn z => by
    rw [z, hl] at ha
    exact hn _ (Option.some.inj ha).symm
  obtain ⟨p, dx, u, rfl, h1, h2⟩ := h
  obtain ⟨a, us, rfl, hs, hi⟩ := h2.ix
  exact ⟨p, dx, _, rfl, e _ _ (ne h1 (fun _ q => by cases q)) h1, (hi.put hl e).ds (sqt_put hs hl e)⟩
theorem SetsAt.put {us : List V} {Ss : List (Int → Bool)} (h : SetsAt K H us Ss) (hl : H D = some (.lst ys)) (hy : NoBl ys) (e : Sx D H H') : SetsAt K H' us Ss := ⟨h.1, fun i S hS => by
  obtain ⟨u, h1, h2⟩ := h.2 i S hS
  exact ⟨u, h1, h2.put hl hy e⟩⟩
theorem SetAt.ins {v : V} {S : Int → Bool} (h : SetAt K H v S) : ∃ a dx fs, v = .ref a ∧ H a = some (.ins (cDist K) dx fs) := by
  obtain ⟨p, dx, _, _, _, rfl, hp, _⟩ := h
  exact ⟨p, dx, _, rfl, hp⟩
/-- the values of sets are no bools -/
theorem SetsAt.nobl {us : List V} {Ss : List (Int → Bool)} (h : SetsAt K H us Ss) : NoBl us := fun fl hf e => by
  cases fl with
  | nil => exact hf rfl
  | cons b fl =>
    cases us with
    | nil => cases e
    | cons u us =>
      cases Ss with
      | nil => exact absurd h.1 (by simp)
      | cons S Ss =>
        obtain ⟨u', h1, p, dx, w, _, _, rfl, _⟩ := h.2 0 S rfl
        have e2 : u = .ref p := Option.some.inj h1
        rw [e2, List.map_cons] at e
        exact absurd (List.cons.inj e).1 (by simp)
theorem SetsAt.snoc {us : List V} {Ss : List (Int → Bool)} {u : V} {S : Int → Bool} (h : SetsAt K H us Ss) (hu : SetAt K H u S) : SetsAt K H (us ++ [u]) (Ss ++ [S]) := by
  refine ⟨by rw [List.length_append, List.length_append, h.1]; rfl, fun i T hT => ?_⟩
  by_cases c : i < Ss.length
  · rw [List.getElem?_append_left c] at hT
    obtain ⟨v, h1, h2⟩ := h.2 i T hT
    exact ⟨v, by rw [List.getElem?_append_left (by rw [h.1]; exact c)]; exact h1, h2⟩
  · rw [List.getElem?_append_right (by omega)] at hT
    have e0 : i - Ss.length = 0 := by
      have := (List.getElem?_eq_some_iff.mp hT).1
      rw [List.length_singleton] at this
      omega
    rw [e0] at hT
    cases hT
    exact ⟨u, by rw [List.getElem?_append_right (by rw [h.1]; omega), h.1, e0]; rfl, hu⟩
theorem SetsAt.take {us : List V} {Ss : List (Int → Bool)} (h : SetsAt K H us Ss) (k : Nat) : SetsAt K H (us.take k) (Ss.take k) := by
  refine ⟨by rw [List.length_take, List.length_take, h.1], fun i T hT => ?_⟩
  rw [List.getElem?_take] at hT
  by_cases c : i < k
  · rw [if_pos c] at hT
    obtain ⟨v, h1, h2⟩ := h.2 i T hT
    exact ⟨v, by rw [List.getElem?_take, if_pos c]; exact h1, h2⟩
  · rw [if_neg c] at hT
    cases hT
theorem PotAt.nobl {n : Nat} {p : Addr} (h : PotAt n H p) : ∃ ys, H p = some (.lst ys) ∧ NoBl ys := by
  obtain ⟨a, b, c, h1, _⟩ := h
  refine ⟨_, h1, fun fl hf e => ?_⟩
  cases fl with
  | nil => exact hf rfl
  | cons b fl =>
    rw [List.map_cons] at e
    exact absurd (List.cons.inj e).1 (by simp)
theorem look_test (x : Deed Str) : decide (V.str (pdW x.inner) = V.str (Str.ofString "look")) = !failK x := by
  unfold failK
  cases x.inner <;> first | rfl | decide +kernel
theorem pdW_at (p : PD Str) : atI (pdV p) 0 = some (.str (pdW p)) := by cases p <;> rfl
theorem POk.fetch {ds : List (Deed Str)} (h : POk ds) (l6 : ds.length ≤ 6) {t : Str} (gt : goodT t) : POk (ds ++ [.pl (.fetch false t)]) := by
  refine ⟨fun x hx => ?_, by rw [List.length_append, List.length_singleton]; omega, ?_⟩
  · rcases List.mem_append.mp hx with hx | hx
    · exact h.ok x hx
    · rw [List.mem_singleton] at hx
      subst hx
      exact gt
  · have e : reachOf (ds ++ [.pl (.fetch false t)]) = reachOf ds := by
      unfold reachOf
      rw [List.foldl_append]
      rfl
    unfold boundOf
    rw [e]
    exact h.bd
end
end Rln
end
section
set_option Elab.async false
set_option linter.all false
set_option maxRecDepth 100000
set_option maxHeartbeats 4000000
namespace Rln
open PySem PySem.Spec PyProof.Rows L2
section
variable {P : Program} {w : World} {K : PySem.W.Frag} {mg : Str → Option Value} {base : Heap}
abbrev N_l_right : List Str := ["_law_pot_here", "_law_deeds_here", "_law_work", "_law_none", "_law_side", "_law_sets", "_law_bad", "_law_k", "_law_said", "_law_one", "_law_two", "_law_behind", "_law_hung", "_law_item"]
theorem sc_l_right : FnScope N_l_right ["_law_pot_here"] (defScope s_l_right) := ⟨rfl, rfl, rfl, by decide +kernel, rfl, by decide +kernel, by decide +kernel⟩
def spLRight (K : PySem.W.Frag) : Sp := fun vs H Q _ => ∃ (p : Addr), vs = [.ref p] ∧ PotAt 0 H p ∧ ∀ H', Sx p H H' → Q (.bl true) H'
theorem cal_l_right (T : Tx K mg) : Cal P w K mg base 12 "_law_right" (spLRight K) [] := by
  refine calD T.f_l_right T.g__law_right sc_l_right (fun vs H Q E h => ?_) (fun _ _ _ _ _ _ us hl => match us, hl with | [_], _ => rfl) (fun cdv A outer s H vs Q E hr h => ?_)
  · obtain ⟨p, rfl, _⟩ := h
    rfl
  · obtain ⟨p, rfl, hp, k⟩ := h
    refine ⟨_, (pss_cons (ps_set (i := 1) sc_l_right.nd rfl (Or.inl rfl) (C8.pe_c (cal_l_deeds T) hr (by decide) (by rfl) (pa_cons (pv 0) (pa_cons pe_int (pa_cons pe_int pa_nil)))))
      (pss_cons (ps_asg (pe_tup (pa_cons (C8.pe_c (cal_l_plan T) hr (by decide) (by rfl) (pa_cons (pv 1) pa_nil)) (pa_cons (pe_mk0 (mak_Dist0 T) hr (by decide) (by rfl)) pa_nil))) (pg_tup rfl (pgs_cons (pg_name (i := 2) sc_l_right.nd rfl (Or.inr rfl)) (pgs_cons (pg_name (i := 3) sc_l_right.nd rfl (Or.inr rfl)) pgs_nil))))
      (pss_cons (ps_for PassesOwn.never rfl (pi_tup (pe_tup (pa_cons pe_str (pa_cons pe_str pa_nil)))) (pg_name (i := 4) sc_l_right.nd rfl (Or.inr rfl)) (pss_cons (ps_set (i := 5) sc_l_right.nd rfl (Or.inr rfl) (pe_lc (own := [("_law_item", 13)]) rfl sc_l_right.nd (pi_tup (pe_op op_catA (pe_c0 (cal_l_things T) hr (by decide) (by rfl)) (pe_tup (pa_cons pe_non pa_nil)))) (blkOk_by (N := N_l_right) (sc := defScope s_l_right) (own := [("_law_item", 13)]) (by decide +kernel)) (fun _ _ _ _ _ => (pg_name (i := 13) sc_l_right.nd rfl (Or.inl rfl))) (fun _ _ _ _ _ => pts_nil) (fun _ _ _ _ _ => (C8.pe_c (cal_resting T) hr (by decide) (by rfl) (pa_cons (pv 2) (pa_cons (pv 4) (pa_cons (pv 13) pa_nil)))))))
      (pss_cons (ps_if (pt_cmpR (op_ne_own (met_eq T) T.ne_Dist T.ins_Dist.hm (hr.mono (by decide))) (C8.pe_c (cal_l_all T) hr (by decide) (by rfl) (pa_cons (pv 5) pa_nil)) (pe_un (un_own (met_inv T) (hr.mono (by decide))) (pv 3)) (nomark _)) (pss_one (ps_ret pe_bl)) pss_nil)
      (pss_one (ps_if (pt_cmpR (op_neD hr.units) (pe_lc (own := [("_law_k", 7)]) rfl sc_l_right.nd (pi_range1 (by rfl) T.n_range (pa_cons (pe_callB call_len_seq (by rfl) T.n_len (by decide +kernel) (pa_cons (pv 5) pa_nil)) pa_nil)) (blkOk_by (N := N_l_right) (sc := defScope s_l_right) (own := [("_law_k", 7)]) (by decide +kernel)) (fun _ _ _ _ _ => (pg_name (i := 7) sc_l_right.nd rfl (Or.inl rfl))) (fun _ _ _ _ _ => pts_one (pt_cmpR (op_ne_own (met_eq T) T.ne_Dist T.ins_Dist.hm (hr.mono (by decide))) (pe_op (op_own (op := .BitAnd) (met_and T) T.sf_Dist (hr.mono (by decide))) (pe_ix (ix_listB (K := K) rfl) (pv 5) (pv 7) (fun _ _ => rfl)) (C8.pe_c (cal_l_all T) hr (by decide) (by rfl) (pa_cons (pe_slice (sl_listB (K := K) rfl) (pv 5) po_none (po_some (pv 7))) pa_nil))) (pv 3) (nomark _))) (fun _ _ _ _ _ => pe_int)) (pe_lst pa_nil) (nomark _)) (pss_one (ps_ret pe_bl)) pss_nil)))))
      (pss_cons (ps_setLc (i := 6) (own := [("_law_k", 7)]) rfl sc_l_right.nd rfl rfl (sw_true rfl rfl rfl (by decide +kernel)) (pi_range1 (by rfl) T.n_range (pa_cons (pe_callB call_len_seq (by rfl) T.n_len (by decide +kernel) (pa_cons (pv 1) pa_nil)) pa_nil)) (blkOk_by (N := N_l_right) (sc := defScope s_l_right) (own := [("_law_k", 7)]) (by decide +kernel)) (fun _ _ _ _ _ => (pg_name (i := 7) sc_l_right.nd rfl (Or.inl rfl))) (fun _ _ _ _ _ => pts_nil) (fun _ _ _ _ _ => (C8.pe_c (cal_failing T) hr (by decide) (by rfl) (pa_cons (pv 2) (pa_cons (pv 7) pa_nil)))))
      (pss_cons (ps_for PassesOwn.never rfl (pi_range1 (by rfl) T.n_range (pa_cons (pe_callB call_len_seq (by rfl) T.n_len (by decide +kernel) (pa_cons (pv 1) pa_nil)) pa_nil)) (pg_name (i := 7) sc_l_right.nd rfl (Or.inl rfl)) (pss_cons (ps_set (i := 8) sc_l_right.nd rfl (Or.inl rfl) (pe_op (op_own (op := .BitOr) (met_or T) T.sf_Dist (hr.mono (by decide))) (C8.pe_c (cal_showing T) hr (by decide) (by rfl) (pa_cons (pv 2) (pa_cons (pv 7) (pa_cons pe_bl pa_nil)))) (C8.pe_c (cal_showing T) hr (by decide) (by rfl) (pa_cons (pv 2) (pa_cons (pv 7) (pa_cons pe_non pa_nil))))))
      (pss_one (ps_if (pt_cmpR (op_ne_own (met_eq T) T.ne_Dist T.ins_Dist.hm (hr.mono (by decide))) (pe_ix ix_list (pv 6) (pv 7) (fun _ _ => rfl)) (pe_ifExp (pt_cmpR op_eq (pe_ix ix_tup (C8.pe_c (cal_l_inner T) hr (by decide) (by rfl) (pa_cons (pe_ix ix_tup (pv 1) (pv 7) (fun _ _ => rfl)) pa_nil)) pe_int (fun _ _ => rfl)) pe_str (nomark _)) (pv 3) (pv 8)) (nomark _)) (pss_one (ps_ret pe_bl)) pss_nil))))
      (pss_cons (ps_if (pt_cmpR (op_ne_own (met_eq T) T.ne_Dist T.ins_Dist.hm (hr.mono (by decide))) (C8.pe_c (cal_carrying T) hr (by decide) (by rfl) (pa_cons (pv 2) pa_nil)) (pe_un (un_own (met_inv T) (hr.mono (by decide))) (C8.pe_c (cal_l_all T) hr (by decide) (by rfl) (pa_cons (pv 6) pa_nil))) (nomark _)) (pss_one (ps_ret pe_bl)) pss_nil)
      (pss_cons (ps_par (i := 9) (j := 10) (by rfl) sc_l_right.nd rfl rfl (by decide) rfl rfl (pa_cons (pe_ix ix_tup (pe_c0 (cal_l_things T) hr (by decide) (by rfl)) (C8.pe_c (cal_l_dip T) hr (by decide) (by rfl) (pa_cons (pv 0) (pa_cons pe_int pa_nil))) (fun _ _ => rfl)) (pa_cons (pe_ix ix_tup (pe_c0 (cal_l_things T) hr (by decide) (by rfl)) (C8.pe_c (cal_l_dip T) hr (by decide) (by rfl) (pa_cons (pv 0) (pa_cons pe_int pa_nil))) (fun _ _ => rfl)) pa_nil)) (by rfl))
      (pss_cons (ps_set (i := 11) sc_l_right.nd rfl (Or.inl rfl) (C8.pe_mk (mak_Plan1 T) hr (by decide) (by rfl) (pa_cons (pe_op op_catA (pv 1) (pe_tup (pa_cons (pe_tup (pa_cons pe_str (pa_cons pe_str (pa_cons (pv 9) pa_nil)))) pa_nil))) pa_nil)))
      (pss_cons (ps_set (i := 12) sc_l_right.nd rfl (Or.inl rfl) (pe_un (un_own (met_inv T) (hr.mono (by decide))) (C8.pe_c (cal_failing T) hr (by decide) (by rfl) (pa_cons (pv 11) (pa_cons (pe_callB call_len_seq (by rfl) T.n_len (by decide +kernel) (pa_cons (pv 1) pa_nil)) pa_nil)))))
      (pss_cons (ps_if (PW.pt (pw_and (pt_cmpR (op_ne_own (met_eq T) T.ne_Dist T.ins_Dist.hm (hr.mono (by decide))) (C8.pe_c (cal_meeting T) hr (by decide) (by rfl) (pa_cons (pv 2) (pa_cons (pv 9) (pa_cons (pv 10) pa_nil)))) (pe_op (op_own (op := .BitAnd) (met_and T) T.sf_Dist (hr.mono (by decide))) (pv 12) (C8.pe_c (cal_resting T) hr (by decide) (by rfl) (pa_cons (pv 11) (pa_cons pe_str (pa_cons (pv 10) pa_nil))))) (nomark _)) (pw_and1 (pt_cmpR op_ne (pv 9) (pv 10) (nomark _))))) (pss_one (ps_ret pe_bl)) pss_nil)
      (pss_one (ps_ret (pe_and (pe_cmpR (op_eq_own (met_eq T) (hr.mono (by decide))) (C8.pe_c (cal_same_tellings T) hr (by decide) (by rfl) (pa_cons (pe_mk0 (mak_Plan0 T) hr (by decide) (by rfl)) (pa_cons (pe_lst pa_nil) pa_nil))) (pe_un (un_own (met_inv T) (hr.mono (by decide))) (pv 3)) (nomark _)) (pe_one (pe_cmpR (op_eq_own (met_eq T) (hr.mono (by decide))) (C8.pe_c (cal_same_tellings T) hr (by decide) (by rfl) (pa_cons (pv 2) (pa_cons (pe_op op_rep (pe_lst (pa_cons pe_bl pa_nil)) pe_int) pa_nil))) (pv 3) (nomark _)))))))))))))))), ?_⟩
    have z1 : 1 ≤ sizeLine := by decide
    have z2 : 2 ≤ sizeLine := by decide
    refine ⟨_, rfl, p, 0, rfl, hp, by omega, fun H1 v ds s1 hp1 hD pk l6 => ?_⟩
    refine ⟨_, rfl, v, ds, rfl, hD, pk.ok, l6, fun H2 wv e2 hP => ?_⟩
    intro x dx hx hdx ne
    refine dist_read0 T hx hdx fun H3 e3 hN => ⟨rfl, z2, fun q hq => ?_⟩
    have e4 : Same H3 (upd H3 q (.tup [wv, .ref x])) := Same.new hq
    refine ⟨q, _, rfl, SqT.of upd_same, rfl, _, _, rfl, _, _, rfl, rfl, ?_⟩
    generalize upd H3 q (.tup [wv, .ref x]) = H4 at e4
    have e24 := e3.trans e4
    replace hP := hP.mono e24
    replace hN := hN.mono e4
    replace hp1 := hp1.mono (e2.trans e24)
    replace hD := hD.mono (e2.trans e24)
    have s4 : Sx p H H4 := fun b u n z => (e2.trans e24) b u (s1 b u n z)
    clear e2 e3 e4 e24 s1 hx hdx ne hq
    refine ⟨by decide, fun W hW => ?_⟩
    have e5 : Same H4 (upd H4 W (.tup [.str "near", .str "far"])) := Same.new hW
    have hW5 : upd H4 W (.tup [.str "near", .str "far"]) W = some (.tup [.str "near", .str "far"]) := upd_same
    generalize upd H4 W (.tup [.str "near", .str "far"]) = H5 at e5 hW5
    refine ⟨W, rfl, ⟨_, SqT.of hW5⟩, for_it (walk_tup (xs := [V.str "near", V.str "far"])) (fun i σ' H' => Same H5 H' ∧ ∃ x4 x5, σ' = [some (.ref p), some v, some wv, some (.ref x), x4, x5, none, none, none, none, none, none, none, none]) ⟨fun _ _ z => z, _, _, rfl⟩ (fun i σ' H' _ h => SqT.of (h.1 _ _ hW5)) ?_ ?_⟩
    · rintro i x1 σ' H6 H7 hi ⟨e6, y4, y5, rfl⟩ ⟨eH, hx1⟩
      have eH2 : H6 = H7 := eH.symm
      subst eH2
      obtain ⟨f, rfl⟩ : ∃ f, x1 = .str (wS f) := by
        have hi2 : i < 2 := hi
        have h2 : i = 0 ∨ i = 1 := by omega
        rcases h2 with rfl | rfl
        · cases hx1
          exact ⟨false, rfl⟩
        · cases hx1
          exact ⟨true, rfl⟩
      clear hx1
      replace hP := (hP.mono e5).mono e6
      replace hN := (hN.mono e5).mono e6
      refine ⟨rfl, fun B hB => ?_⟩
      have e7 : Same H6 (upd H6 B (.tup thV)) := Same.new hB
      have hB7 : upd H6 B (.tup thV) B = some (.tup thV) := upd_same
      generalize upd H6 B (.tup thV) = H7 at e7 hB7
      refine ⟨by decide, fun B3 hB3 => ?_⟩
      have e8 : Same H7 (upd H7 B3 (.tup [.non])) := Same.new hB3
      have hB8 : upd H7 B3 (.tup [.non]) B3 = some (.tup [.non]) := upd_same
      generalize upd H7 B3 (.tup [.non]) = H8 at e8 hB8
      refine ⟨B, B3, _, _, rfl, rfl, SqT.of (e8 _ _ hB7), SqT.of hB8, by decide, fun z => absurd z (by decide), fun _ z => (by cases z), fun _ _ B4 hB4 => ?_⟩
      have e9 : Same H8 (upd H8 B4 (.tup (thV ++ [.non]))) := Same.new hB4
      have hB9 : upd H8 B4 (.tup (thV ++ [.non])) B4 = some (.tup (whs.map whatV)) := upd_same
      generalize upd H8 B4 (.tup (thV ++ [.non])) = H9 at e9 hB9
      have e69 := (e7.trans e8).trans e9
      replace hP := hP.mono e69
      replace hN := hN.mono e69
      refine ⟨B4, rfl, ⟨_, SqT.of hB9⟩, fun D hD0 => lc_it (walk_tup (xs := whs.map whatV)) (fun i H' => Same H9 H' ∧ ∃ ys, H' D = some (.lst ys) ∧ SetsAt K H' ys ((whs.take i).map (restS ds f))) ⟨Same.new hD0, [], upd_same, rfl, fun i S h => nomatch h⟩ (fun i H' _ h => SqT.of (h.1 _ _ hB9)) ?_ ?_⟩
      · rintro i x1 Ha Hb hi ⟨ea, ys, hla, hsa⟩ ⟨eH, hx⟩
        have eH2 : Ha = Hb := eH.symm
        subst eH2
        have hid : i < whs.length := by rw [List.length_map] at hi; exact hi
        have ex : whatV whs[i] = x1 := by
          rw [List.getElem?_map, List.getElem?_eq_getElem hid] at hx
          exact Option.some.inj hx
        subst ex
        have ly : ys.length = i := by
          have := hsa.1
          rw [List.length_map, List.length_take] at this
          omega
        have l5 : whs.length = 5 := rfl
        refine ⟨rfl, lcYes ⟨_, rfl, _, rfl, _, rfl, wv, ds, f, whs[i], rfl, hP.mono ea, pk, whs_good _ (List.getElem_mem hid), fun Hc r ec hr' => ⟨ys, ec _ _ hla, ?_, (ea.trans ec).put hD0, ys ++ [r], upd_same, ?_⟩⟩⟩
        · rw [ly, sizeLine_eq]
          omega
        · rw [List.take_succ_eq_append_getElem hid, List.map_append]
          have h3 := hsa.mono ec
          exact (h3.put (ec _ _ hla) h3.nobl sx_upd).snoc (hr'.put (ec _ _ hla) h3.nobl sx_upd)
      · rintro Ha ⟨ea, ys, hla, hsa⟩
        rw [List.length_map, List.take_length] at hsa
        replace hP := hP.mono ea
        replace hN := hN.mono ea
        refine ⟨_, rfl, D, ys, _, rfl, SqL.of hla, hsa, fun Hc r ec hr' => ?_⟩
        have ec : Same Ha Hc := ec
        refine ⟨_, rfl, (hN.mono ec).ins, _, _, rfl, hN.mono ec, fun Hd r2 ed hr2 => ?_⟩
        have ed : Same Hc Hd := ed
        refine ⟨SetAt.two (hr'.mono ed) hr2, _, _, _, _, rfl, hr'.mono ed, hr2, fun b hb => ⟨b, rfl, ?_⟩⟩
        have hb := hb fun d hd => rest_all pk.ok f hd
        subst hb
        refine ⟨_, rfl, iteF ?_⟩
        have ead := ec.trans ed
        replace hla := ead _ _ hla
        replace hsa := hsa.mono ead
        replace hN := hN.mono ead
        have e6d : Same H6 Hd := (e69.trans ea).trans ead
        have ly : ys.length = 5 := hsa.1
        refine ⟨_, rfl, D, ys, rfl, .inl (SqL.of hla), _, rfl, by omega, by omega, fun E0 hE0 => lc_it walk_range (fun i H' => Same Hd H' ∧ H' E0 = some (.lst [])) ⟨Same.new hE0, upd_same⟩ (fun _ _ _ _ => trivial) ?_ ?_⟩
        · rintro i x1 He Hf hi ⟨ee, hle⟩ ⟨eH, hx1⟩
          have eH2 : He = Hf := eH.symm
          subst eH2
          have ex : x1 = V.int ((i : Nat) : Int) := by
            rw [hx1]
            show V.int (0 + (i : Int)) = V.int (i : Int)
            rw [Int.zero_add]
          clear hx1
          subst ex
          have i5 : i < 5 := by omega
          have l5 : whs.length = 5 := rfl
          have hwi : whs[i]? = some (whs[i]'(by omega)) := List.getElem?_eq_getElem (by omega)
          obtain ⟨u, hu, hsu⟩ := hsa.2 i (restS ds f (whs[i]'(by omega))) (by rw [List.getElem?_map, hwi]; rfl)
          refine ⟨rfl, _, rfl, _, rfl, D, ys, _, _, rfl, rfl, SqL.of (ee _ _ hla), atI_nat hu, ?_⟩
          refine ⟨_, rfl, _, rfl, _, rfl, D, ys, rfl, SqL.of (ee _ _ hla), fun L hL => ?_⟩
          have hL := hL
          show (fun (Hx : Hp) => _) (upd He L (.lst (cutV ys none (some ((i : Nat) : Int)))))
          rw [cut_take _ _ (by omega)]
          have ef : Same He (upd He L (.lst (ys.take i))) := Same.new hL
          have hLf : upd He L (.lst (ys.take i)) L = some (.lst (ys.take i)) := upd_same
          generalize upd He L (.lst (ys.take i)) = Hf at ef hLf
          have edf := ee.trans ef
          refine ⟨L, _, _, rfl, SqL.of hLf, (hsa.mono edf).take i, fun Hg r eg hr => ?_⟩
          have eg : Same Hf Hg := eg
          have hsg := hsu.mono (edf.trans eg)
          refine ⟨SetAt.two hsg hr, u, r, _, _, rfl, hsg, hr, fun Hh r2 eh hr2 => ?_⟩
          have eh : Same Hg Hh := eh
          have edh := (edf.trans eg).trans eh
          have hNh := hN.mono edh
          refine ⟨_, rfl, SetAt.two hr2 hNh, r2, _, _, _, rfl, hr2, hNh, fun b hb => ⟨b, rfl, ?_⟩⟩
          have hb := hb fun d hd => by
            rw [← List.map_take]
            exact rest_apart ds f hwi d
          subst hb
          exact ⟨_, rfl, iteF ⟨edh, ((ef.trans eg).trans eh) _ _ hle⟩⟩
        · rintro He ⟨ee, hle⟩
          refine ⟨by decide, fun G hG => ?_⟩
          have eg : Same He (upd He G (.lst [])) := Same.new hG
          refine ⟨_, _, .lst (SqL.of (eg _ _ hle)) .nil, .lst (SqL.of upd_same) .nil, rfl, rfl, _, rfl, iteF ?_⟩
          exact ⟨(e6.trans e6d).trans (ee.trans eg), _, _, rfl⟩
    · rintro σ' H6 ⟨e6, y4, y5, rfl⟩
      have e46 := e5.trans e6
      replace hP := hP.mono e46
      replace hN := hN.mono e46
      replace hD := hD.mono e46
      replace hp1 := hp1.mono e46
      replace s4 : Sx p H H6 := fun b u n z => e46 b u (s4 b u n z)
      clear e46 e5 e6 hW5 hW
      obtain ⟨a, us, rfl, hs, hi⟩ := hD.ix
      have hul := hi.1
      refine ⟨_, rfl, a, us, rfl, .inr hs, _, rfl, by omega, by omega, fun D hD0 => lc_it walk_range (fun i H' => Same H6 H' ∧ ∃ ys, H' D = some (.lst ys) ∧ SetsAt K H' ys ((List.range i).map fun k => failAt ds k)) ⟨Same.new hD0, [], upd_same, rfl, fun i S h => nomatch h⟩ (fun _ _ _ _ => trivial) ?_ ?_⟩
      · rintro i x1 Ha Hb hi' ⟨ea, ys, hla, hsa⟩ ⟨eH, hx1⟩
        have eH2 : Ha = Hb := eH.symm
        subst eH2
        have ex : x1 = V.int ((i : Nat) : Int) := by
          rw [hx1]
          show V.int (0 + (i : Int)) = V.int (i : Int)
          rw [Int.zero_add]
        clear hx1
        subst ex
        have hid : i < ds.length := by omega
        have ly : ys.length = i := by
          have := hsa.1
          rw [List.length_map, List.length_range] at this
          omega
        refine ⟨rfl, lcYes ⟨_, rfl, _, rfl, wv, ds, i, rfl, hP.mono ea, pk, hid, fun Hc r ec hr' => ⟨ys, ec _ _ hla, ?_, (ea.trans ec).put hD0, ys ++ [r], upd_same, ?_⟩⟩⟩
        · rw [ly, sizeLine_eq]
          omega
        · rw [List.range_succ, List.map_append]
          have h3 := hsa.mono ec
          exact (h3.put (ec _ _ hla) h3.nobl sx_upd).snoc (hr'.put (ec _ _ hla) h3.nobl sx_upd)
      · rintro H7 ⟨e7, ys, hl7, hs7⟩
        have en : (us.length : Int).toNat = ds.length := by omega
        rw [en] at hs7
        replace hP := hP.mono e7
        replace hN := hN.mono e7
        replace hD := hD.mono e7
        replace hp1 := hp1.mono e7
        replace hs := e7.sqt hs
        replace hi := hi.mono e7
        replace s4 : Sx p H H7 := fun b u n z => e7 b u (s4 b u n z)
        clear e7
        refine ⟨_, rfl, a, us, rfl, .inr hs, _, rfl, by omega, by omega, for_it walk_range (fun i σ' H' => Same H7 H' ∧ ∃ x7 x8, σ' = [some (.ref p), some (.ref a), some wv, some (.ref x), y4, y5, some (.ref D), x7, x8, none, none, none, none, none]) ⟨fun _ _ z => z, _, _, rfl⟩ (fun _ _ _ _ _ => trivial) ?_ ?_⟩
        · rintro i x1 σ' Ha Hb hi' ⟨ea, y7, y8, rfl⟩ ⟨eH, hx1⟩
          have eH2 : Ha = Hb := eH.symm
          subst eH2
          have ex : x1 = V.int ((i : Nat) : Int) := by
            rw [hx1]
            show V.int (0 + (i : Int)) = V.int (i : Int)
            rw [Int.zero_add]
          clear hx1
          subst ex
          have hid : i < ds.length := by omega
          have hdi : ds[i]? = some (ds[i]'hid) := List.getElem?_eq_getElem hid
          refine ⟨_, rfl, _, rfl, wv, ds, i, .bl false, rfl, hP.mono ea, pk, hid, rfl, rfl, fun Hb r1 eb hr1 => ?_⟩
          have eb : Same Ha Hb := eb
          refine ⟨_, rfl, _, rfl, wv, ds, i, .non, rfl, (hP.mono ea).mono eb, pk, hid, rfl, rfl, fun Hc r2 ec hr2 => ?_⟩
          have ec : Same Hb Hc := ec
          have hr1c := hr1.mono ec
          refine ⟨SetAt.two hr1c hr2, r1, r2, _, _, rfl, hr1c, hr2, fun Hd r3 ed hr3 => ?_⟩
          have ed : Same Hc Hd := ed
          have e7d := ((ea.trans eb).trans ec).trans ed
          obtain ⟨bu, hbu, hbs⟩ := hs7.2 i (failAt ds i) (by rw [List.getElem?_map, List.getElem?_range hid]; rfl)
          obtain ⟨du, hdu, hdd⟩ := hi.2 i _ hdi
          refine ⟨_, rfl, _, rfl, D, ys, _, _, rfl, rfl, SqL.of (e7d _ _ hl7), atI_nat hbu, ?_⟩
          refine ⟨_, rfl, _, rfl, a, us, _, _, rfl, rfl, e7d.sqt hs, atI_nat hdu, du, _, rfl, hdd.mono e7d, fun a' ha' => ?_⟩
          refine ⟨a', _, _, _, rfl, rfl, SqT.of ha', pdW_at _, rfl, _, rfl, ?_⟩
          have hbd := hbs.mono e7d
          have hNd := hN.mono e7d
          cases hk : failK (ds[i]'hid) with
          | false =>
            refine iteTd (by rw [look_test, hk]; rfl) ⟨_, rfl, SetAt.two hbd hNd, bu, _, _, _, rfl, hbd, hNd, fun b hb => ⟨b, rfl, ?_⟩⟩
            have hb := hb fun d hd => fail_look hdi hk d
            subst hb
            exact ⟨_, rfl, iteF ⟨e7d, _, _, rfl⟩⟩
          | true =>
            refine iteFd (by rw [look_test, hk]; rfl) ⟨_, rfl, SetAt.two hbd hr3, bu, _, _, _, rfl, hbd, hr3, fun b hb => ⟨b, rfl, ?_⟩⟩
            have hb := hb fun d hd => fail_show hdi hk d
            subst hb
            exact ⟨_, rfl, iteF ⟨e7d, _, _, rfl⟩⟩
        · rintro σ' Ha ⟨ea, y7, y8, rfl⟩
          replace hP := hP.mono ea
          replace hN := hN.mono ea
          replace hD := hD.mono ea
          replace hp1 := hp1.mono ea
          replace hs := ea.sqt hs
          replace hi := hi.mono ea
          replace hs7 := hs7.mono ea
          replace hl7 := ea _ _ hl7
          replace s4 : Sx p H Ha := fun b u n z => ea b u (s4 b u n z)
          clear ea
          refine ⟨_, rfl, wv, ds, rfl, hP, pk, fun Hb r1 eb hr1 => ?_⟩
          have eb : Same Ha Hb := eb
          refine ⟨_, rfl, D, ys, _, rfl, SqL.of (eb _ _ hl7), hs7.mono eb, fun Hc r2 ec hr2 => ?_⟩
          have ec : Same Hb Hc := ec
          refine ⟨hr2.ins, r2, _, rfl, hr2, fun Hd r3 ed hr3 => ?_⟩
          have ed : Same Hc Hd := ed
          have hr1d := (hr1.mono ec).mono ed
          refine ⟨SetAt.two hr1d hr3, r1, r3, _, _, rfl, hr1d, hr3, fun b hb => ⟨b, rfl, ?_⟩⟩
          have hb := hb fun d hd => by
            rw [carry_eq, List.any_map]
            rfl
          subst hb
          have ead := (eb.trans ec).trans ed
          refine ⟨_, rfl, iteF ?_⟩
          replace hP := hP.mono ead
          replace hN := hN.mono ead
          replace hD := hD.mono ead
          replace hp1 := hp1.mono ead
          replace s4 : Sx p H Hd := fun b u n z => ead b u (s4 b u n z)
          clear hs hi hs7 hl7 hr1 hr2 hr3 hr1d eb ec ed ead hul hb
          have z3 : 3 ≤ sizeLine := by decide
          refine ⟨rfl, fun B hB => ?_⟩
          have e1 : Same Hd (upd Hd B (.tup thV)) := Same.new hB
          refine ⟨_, rfl, p, 3, 200, rfl, hp1.mono e1, by omega, by decide, by decide, fun He q1 s1 hp2 q10 q11 => ?_⟩
          have hB1 := s1 B _ (hp1.ne hB) upd_same
          obtain ⟨t1, ht1, g1⟩ := label_of q10 q11
          refine ⟨B, _, _, _, rfl, rfl, SqT.of hB1, ht1, ?_⟩
          replace s1 : Sx p Hd He := fun b u n z => s1 b u n (e1 b u z)
          refine ⟨rfl, fun B2 hB2 => ?_⟩
          have e2 : Same He (upd He B2 (.tup thV)) := Same.new hB2
          refine ⟨_, rfl, p, 3, 201, rfl, hp2.mono e2, by omega, by decide, by decide, fun Hf q2 s2 hp3 q20 q21 => ?_⟩
          have hB3 := s2 B2 _ (hp2.ne hB2) upd_same
          obtain ⟨t2, ht2, g2⟩ := label_of q20 q21
          refine ⟨B2, _, _, _, rfl, rfl, SqT.of hB3, ht2, _, _, rfl, ?_⟩
          replace s2 : Sx p Hd Hf := fun b u n z => s2 b u n (e2 b u (s1 b u n z))
          obtain ⟨zs, hz, nz⟩ := hp1.nobl
          replace hP := hP.put hz s2
          replace hN := hN.put hz nz s2
          replace hD : DsAt K Hf (.ref a) ds := by
            obtain ⟨a0, us0, e0, hs0, hi0⟩ := hD.ix
            cases e0
            exact (hi0.put hz s2).ds (sqt_put hs0 hz s2)
          replace s4 := s4.trans s2
          clear hz nz s1 s2 hB1 hB3 hp1 hp2 hp3 ht1 ht2 e1 e2
          refine ⟨_, rfl, _, rfl, z3, fun q3 hq3 => ?_⟩
          have e3 : Same Hf (upd Hf q3 (.tup [.str "fetch", .str "near", .str t1])) := Same.new hq3
          have hq4 : upd Hf q3 (.tup [.str "fetch", .str "near", .str t1]) q3 = some (.tup (pdV (.fetch false t1))) := upd_same
          generalize upd Hf q3 (.tup [.str "fetch", .str "near", .str t1]) = Hg at e3 hq4
          refine ⟨z1, fun q5 hq5 => ?_⟩
          have e4 : Same Hg (upd Hg q5 (.tup [.ref q3])) := Same.new hq5
          have hE : DsAt K (upd Hg q5 (.tup [.ref q3])) (.ref q5) [.pl (.fetch false t1)] := (IxD.one (x := .pl (.fetch false t1)) ⟨q3, rfl, e4 _ _ hq4⟩).ds (SqT.of upd_same)
          generalize upd Hg q5 (.tup [.ref q3]) = Hh at e4 hE
          have e34 := e3.trans e4
          have pkf := pk.fetch l6 g1
          have lf : (ds ++ [Deed.pl (PD.fetch false t1)]).length = ds.length + 1 := by rw [List.length_append, List.length_singleton]
          refine ds_cat (hD.mono e34) hE (by rw [lf]; omega) fun Hi u ei hDi => ?_
          have ei : Same Hh Hi := ei
          intro x2 dx2 hx2 hdx2 ne2
          refine plan_read hx2 hdx2 hDi pkf.ok pkf.len fun Hj ej hPj => ⟨rfl, ?_⟩
          have efj := (e34.trans ei).trans ej
          obtain ⟨a0, us0, e0, hs0, hi0⟩ := (hD.mono efj).ix
          cases e0
          have ul := hi0.1
          rw [← ul] at lf
          refine ⟨_, rfl, _, rfl, a, us0, rfl, .inr hs0, .ref x2, _, us0.length, rfl, hPj, pkf, by omega, fun Hk r1 ek hr1 => ?_⟩
          have ek : Same Hj Hk := ek
          refine ⟨hr1.ins, r1, _, rfl, hr1, fun Hl r2 el hr2 => ?_⟩
          have el : Same Hk Hl := el
          have efl := (efj.trans ek).trans el
          refine ⟨_, rfl, _, rfl, _, rfl, wv, ds, t1, t2, rfl, hP.mono efl, pk, g1, g2, fun Hm r3 em hr3 => ?_⟩
          have em : Same Hl Hm := em
          have hr2m := hr2.mono em
          refine ⟨_, rfl, _, rfl, _, rfl, .ref x2, _, true, some t2, rfl, ((hPj.mono ek).mono el).mono em, pkf, fun t e => by cases e; exact g2, fun Hn r4 en4 hr4 => ?_⟩
          have en4 : Same Hm Hn := en4
          have hr2n := hr2m.mono en4
          have hr3n := hr3.mono en4
          refine ⟨SetAt.two hr2n hr4, r2, r4, _, _, rfl, hr2n, hr4, fun Ho r5 eo hr5 => ?_⟩
          have eo : Same Hn Ho := eo
          have hr3o := hr3n.mono eo
          refine ⟨SetAt.two hr3o hr5, r3, r5, _, _, rfl, hr3o, hr5, fun b hb => ⟨b, rfl, ?_⟩⟩
          have hb := hb fun d hd => by
            rw [ul]
            exact meet_eq pk.ok t1 t2 hd
          subst hb
          refine ⟨_, rfl, iteF (iteF ?_)⟩
          have efo := ((efl.trans em).trans en4).trans eo
          replace hP := hP.mono efo
          replace hN := hN.mono efo
          replace s4 : Sx p H Ho := fun b u n z => efo b u (s4 b u n z)
          clear efo eo en4 em el ek ej ei hr1 hr2 hr2m hr2n hr3 hr3n hr3o hr4 hr5 hPj
          intro x3 dx3 hx3 hdx3 ne3
          refine plan_read hx3 hdx3 (v := .ref (_root_.He.dflAt ("Plan", some "__init__") 0 K)) (ds := []) ⟨_, [], rfl, T.d_Plan0 _, rfl, fun i x hx => nomatch hx⟩ (fun y hy => nomatch hy) (Nat.zero_le _) fun H1' f1 hP1 => ⟨rfl, ?_⟩
          refine ⟨Nat.zero_le _, fun L hL => ?_⟩
          have f2 : Same H1' (upd H1' L (.lst [])) := Same.new hL
          refine ⟨.ref x3, [], L, [], rfl, hP1.mono f2, upd_same, by decide, .inr ⟨rfl, rfl, fun H2' r1 f3 hr1 => ?_⟩⟩
          have f3 : Same (upd H1' L (.lst [])) H2' := f3
          have f4 := (f1.trans f2).trans f3
          refine ⟨_, rfl, (hN.mono f4).ins, _, _, rfl, hN.mono f4, fun H3' r2 f5 hr2 => ?_⟩
          have f5 : Same H2' H3' := f5
          have hr1' := hr1.mono f5
          refine ⟨SetAt.two hr1' hr2, r1, r2, _, _, rfl, hr1', hr2, fun b hb => ?_⟩
          have hb := hb fun d hd => rfl
          subst hb
          have f6 := f4.trans f5
          refine ⟨_, rfl, iteT ⟨_, rfl, z1, fun M hM => ?_⟩⟩
          have f7 : Same H3' (upd H3' M (.lst [.bl true])) := Same.new hM
          refine ⟨M, 13, _, rfl, rfl, upd_same, by decide, by decide, by decide, fun N hN0 => ?_⟩
          have f8 : Same H3' (upd (upd H3' M (.lst [.bl true])) N (.lst (List.replicate (13 : Int).toNat [V.bl true]).flatten)) := f7.trans (Same.new hN0)
          have f9 := f6.trans f8
          refine ⟨wv, ds, N, _, rfl, hP.mono f9, upd_same, by omega, .inl ⟨?_, fun H4' r3 f10 hr3 => ?_⟩⟩
          · have : ((List.replicate (13 : Int).toNat [V.bl true]).flatten).length = 13 := rfl
            omega
          · have hN4 := (hN.mono f9).mono f10
            refine ⟨_, rfl, SetAt.two hr3 hN4, r3, _, _, _, rfl, hr3, hN4, fun b hb => ?_⟩
            have hb := hb fun d hd => rfl
            subst hb
            exact k H4' fun b u n z => f10 b u (f9 b u (s4 b u n z))
end
end Rln
end
section
set_option Elab.async false
set_option linter.all false
set_option maxRecDepth 100000
set_option maxHeartbeats 4000000
namespace Rln
open PySem PySem.Spec PyProof.Rows L2
section
variable {P : Program} {w : World} {K : PySem.W.Frag} {mg : Str → Option Value} {base : Heap}
abbrev N_law : List Str := ["_law_script", "_law_k"]
theorem sc_law : FnScope N_law ["_law_script"] (defScope s_law) := ⟨rfl, rfl, rfl, by decide +kernel, rfl, by decide +kernel, by decide +kernel⟩
def spLaw (K : PySem.W.Frag) : Sp := fun vs H Q _ => ∃ (A : Addr) (ns : List Int), vs = [.ref A] ∧ SqL K H A (ns.map V.int) ∧ ns.length ≤ 63 ∧ ∀ H', Q (.bl true) H'
theorem body_law (T : Tx K mg) : BodyOk P w K mg base "law" s_law N_law (He.fAd K ("law", none)) 13 (spLaw K) := fun cdv A outer s H vs Q E hr h => by
    obtain ⟨a, ns, rfl, hA, hl, k⟩ := h
    refine ⟨_, (pss_cons (ps_for PassesOwn.never rfl (pi_range1 (by rfl) T.n_range (pa_cons (pe_callB (call_max2 rfl) (by rfl) T.n_max (by decide +kernel) (pa_cons pe_int (pa_cons (pe_callB (call_min2 rfl) (by rfl) T.n_min (by decide +kernel) (pa_cons pe_int (pa_cons (pe_callB call_len_seq (by rfl) T.n_len (by decide +kernel) (pa_cons (pv 0) pa_nil)) pa_nil))) pa_nil))) pa_nil)) (pg_name (i := 1) sc_law.nd rfl (Or.inl rfl)) (pss_one (ps_if (pt_not (pt_val (C8.pe_c (cal_l_right T) hr (by decide) (by rfl) (pa_cons (C8.pe_c (cal_l_pot T) hr (by decide) (by rfl) (pa_cons (pv 0) (pa_cons (pv 1) pa_nil))) pa_nil)))) (pss_one (ps_ret pe_bl)) pss_nil)))
      (pss_one (ps_ret pe_bl))), ?_⟩
    refine ⟨_, rfl, a, _, rfl, .inl hA, _, _, rfl, _, _, rfl, _, rfl, ?_⟩
    have len : (ns.map V.int).length = ns.length := List.length_map ..
    refine ⟨by (repeat' split) <;> omega, by (repeat' split) <;> omega, for_it walk_range (fun i σ' H' => SqL K H' a (ns.map V.int) ∧ ∃ x1, σ' = [some (.ref a), x1]) ⟨hA, _, rfl⟩ (fun _ _ _ _ _ => trivial) ?_ ?_⟩
    · rintro i x1 σ' H1 H2 hi ⟨h1, y1, rfl⟩ ⟨eH, hx1⟩
      have eH2 : H1 = H2 := eH.symm
      subst eH2
      have ex : x1 = V.int ((i : Nat) : Int) := by
        rw [hx1]
        show V.int (0 + (i : Int)) = V.int (i : Int)
        rw [Int.zero_add]
      clear hx1
      subst ex
      have i2 : i < 2 := by
        revert hi
        (repeat' split) <;> omega
      refine ⟨_, rfl, _, rfl, a, ns, i, rfl, h1, i2, fun H3 p e3 hp pt => ?_⟩
      have e3 : Same H1 H3 := e3
      refine ⟨p, rfl, pt, fun H4 s4 => ⟨_, rfl, iteF ⟨?_, _, rfl⟩⟩⟩
      rcases h1 with (z | ⟨o, z⟩) | z
      · exact .inl (.inl (s4 _ _ (ne_of_none z hp) (e3 _ _ z)))
      · exact .inl (.inr ⟨o, s4 _ _ (ne_of_none z hp) (e3 _ _ z)⟩)
      · exact .inr z
    · rintro σ' H1 ⟨h1, y1, rfl⟩
      exact k H1
/-- the law's def, over every base -/
theorem law_fn {P : Program} {w : World} {K : PySem.W.Frag} {mg : Str → Option Value} (T : Tx K mg) : ∃ fd, (∀ (s : Shared) (u : Value), BindsTo s fd ⟨[u], []⟩ [(("_law_script" : Str), u)]) ∧ ∀ base : Heap, FnOk P w K mg base C8.CX0 14 (He.ga K "law") fd ["_law_script"] (spLaw K) := by
  obtain ⟨fd, F⟩ := T.f_law
  refine ⟨fd, fun s u => F.bindsA (ps := ["_law_script"]) (fun _ _ _ _ _ _ us hl => match us, hl with | [_], _ => rfl) s [u] rfl, fun base => fnD F sc_law (fun vs H Q E h => ?_) (body_law T)⟩
  obtain ⟨a, ns, rfl, _⟩ := h
  rfl
theorem law_says {K : PySem.W.Frag} {H : Hp} {a : Addr} {ns : List Int} (hl : ns.length ≤ 63) (hS : SqL K H a (ns.map V.int)) : spLaw K [.ref a] H (fun v _ => v = .bl true) fun _ _ _ => False := ⟨a, ns, rfl, hS, hl, fun _ => rfl⟩
theorem law_at {K : PySem.W.Frag} {mg : Str → Option Value} {h : Heap} (KX : K.In h) (G : h.Ns mainGlobals mg) (c : Says K) {fa : Addr} (hmg : mg "law" = some (.ref fa)) : Tx K mg ∧ fa = He.ga K "law" := by
  have T := Tx.of KX G c
  refine ⟨T, ?_⟩
  have e1 : some (Value.ref fa) = some (Value.ref (He.ga K "law")) := hmg.symm.trans T.g_law
  injection e1 with e1
  injection e1
end
end Rln
end
set_option Elab.async false
set_option linter.all false
set_option maxRecDepth 100000
set_option maxHeartbeats 0
open PySem PySem.W PySem.Calls PyProof.Rows
theorem PySem.Challenge.cw_roundline_k55_whole_sets_that_fit_holds : PySem.Challenge.rw_roundline_k55_whole_sets_that_fit.Holds := by
  w_on; o_law
  refine HandSHeadRun.head_any (r := OpenLaw.row PySem.Challenge.rw_roundline_k55_whole_sets_that_fit) (q := view (OpenLaw.row PySem.Challenge.rw_roundline_k55_whole_sets_that_fit).prog [106]) (H := Rln.hookX) (ob := Rln.ob) (M := 12000) (loose := Rln.names) (d := HandSHeadRun.topDef (OpenLaw.row PySem.Challenge.rw_roundline_k55_whole_sets_that_fit).prog 106) (kwd := []) Rln.ob_eq
    (by kernel_rfl) (fun s => by kernel_rfl) Rln.run (by kernel_rfl) (by kernel_rfl) (by kernel_rfl) (by rfl) (by first | assumption | decide +kernel) (by decide +kernel) ⟨rfl, rfl, rfl, rfl, rfl, by decide +kernel⟩ ?hw ?hc
  case hw => w_witness2
  case hc =>
    refine L2.walk_ofE (l := PySem.Challenge.rw_roundline_k55_whole_sets_that_fit) (n := 63) (k := 14) (x := "_law_script") (CX := L2.CX0) rfl (by decide) (by kernel_rfl) ⟨rfl, by decide, by decide⟩ ?F (fun _ _ _ _ z => z)
    intro w mg fa h Y G hmg0
    obtain ⟨K, KX, c⟩ := Y
    have hmg : mg ("law" : PySem.Str) = some (.ref fa) := by
      have e : (HandSHeadRun.topDef (OpenLaw.row PySem.Challenge.rw_roundline_k55_whole_sets_that_fit).prog 106).name = ("law" : PySem.Str) := by kernel_rfl
      rw [← e]
      exact hmg0
    obtain ⟨T, ef⟩ := Rln.law_at KX G c hmg
    obtain ⟨fd, hb, hF⟩ := Rln.law_fn (P := (OpenLaw.row PySem.Challenge.rw_roundline_k55_whole_sets_that_fit).prog) (w := w) T
    subst ef
    exact ⟨K, fd, Rln.spLaw K, KX, hb, fun H a ns hl _ hS => Rln.law_says hl hS, fun base _ _ => hF base⟩
