import PyProof.Rows.All
import Wide.All
import OpenK.AllK
import Wide.FinOn
import HandS.ForMost
import HandS.Wide
import HandS.Zip
import HandS.More
import HandS.CallLocal
import HandS.Defaults
import KE.KMathG
import Flt.RightSqrt
import PyProof.MinMaxWalk
import PyProof.WalkInts
import HandS.HeadHook3
import HandS.HeadHook4
import KE.KExcSuper
import PySem.Challenge.RW_orrery_k85_whole_catalogues_hold_their_m
import HandS.Text
import HandS.TryOnly
import HandS.ExcOwn
import HandS.WordsExc
import HandS.ExcInit
import HandS.Head3
import HandS.HeadEnd
set_option Elab.async false
set_option linter.all false
set_option maxRecDepth 100000
namespace L3
abbrev Fg := PySem.W.Frag
end L3
set_option maxHeartbeats 400000
/-! Where the defs stand; what the head tells. -/
namespace Or
open PySem PySem.Spec PyProof.Rows L2 L3
def top (i : Nat) : Stmt := PySem.Challenge.pw_orrery_k85_whole_catalogues_hold_their_m.main.body.getD i (.Pass ⟨0, 0, 0, 0⟩)
abbrev st_find_named : Stmt := top 14
abbrev st_put_named : Stmt := top 15
abbrev st_drop_named : Stmt := top 16
abbrev st_craft_of : Stmt := top 17
abbrev st_check : Stmt := top 23
abbrev st_is_name : Stmt := top 24
abbrev st_is_tick : Stmt := top 25
abbrev st_is_box : Stmt := top 26
abbrev st_Body_init : Stmt := inClass (top 27) 0
abbrev st_Burn_init : Stmt := inClass (top 28) 0
abbrev st_Sighting_init : Stmt := inClass (top 29) 0
abbrev st_Craft_init : Stmt := inClass (top 30) 0
abbrev st_Contents_init : Stmt := inClass (top 31) 0
abbrev st_same_craft : Stmt := top 32
abbrev st_craft_data : Stmt := top 33
abbrev st_body_data : Stmt := top 34
abbrev st_entries : Stmt := top 36
abbrev st_first_difference : Stmt := top 37
abbrev st_touched_at : Stmt := top 38
abbrev st_rules_differ : Stmt := top 39
abbrev st_touched_crafts : Stmt := top 40
abbrev st_touched_sites : Stmt := top 41
abbrev st_gone : Stmt := top 42
abbrev st_differences : Stmt := top 43
abbrev st_with_crafts : Stmt := top 48
abbrev st_changed_craft : Stmt := top 50
abbrev st_add_craft : Stmt := top 51
abbrev st_drop_craft : Stmt := top 52
abbrev st_set_drift : Stmt := top 53
abbrev st_add_burn : Stmt := top 54
abbrev st_add_sighting : Stmt := top 56
abbrev st_drop_sighting : Stmt := top 57
abbrev st_set_stride : Stmt := top 61
abbrev st_set_fineness : Stmt := top 62
abbrev st_apply_edit : Stmt := top 65
abbrev st_Catalogue_init : Stmt := inClass (top 68) 0
abbrev st_Catalogue_edit : Stmt := inClass (top 68) 1
abbrev st_Catalogue_undo : Stmt := inClass (top 68) 2
abbrev st_add : Stmt := top 70
abbrev st_subtract : Stmt := top 71
abbrev st_scaled : Stmt := top 72
abbrev st_multiply : Stmt := top 73
abbrev st_square : Stmt := top 74
abbrev st_quotient : Stmt := top 75
abbrev st_root : Stmt := top 76
abbrev st_meet : Stmt := top 77
abbrev st_hull : Stmt := top 78
abbrev st_widened : Stmt := top 79
abbrev st_middle : Stmt := top 80
abbrev st_width : Stmt := top 81
abbrev st_size : Stmt := top 82
abbrev st_inside : Stmt := top 83
abbrev st_has : Stmt := top 84
abbrev st_box_add : Stmt := top 86
abbrev st_box_subtract : Stmt := top 87
abbrev st_box_hull : Stmt := top 88
abbrev st_box_widened : Stmt := top 89
abbrev st_box_meet : Stmt := top 90
abbrev st_box_inside : Stmt := top 91
abbrev st_box_has : Stmt := top 92
abbrev st_square_length : Stmt := top 93
abbrev st_box_size : Stmt := top 94
abbrev st_pull_over : Stmt := top 97
abbrev st_push_at : Stmt := top 100
abbrev st_State_init : Stmt := inClass (top 102) 0
abbrev st_put : Stmt := top 103
abbrev st_split : Stmt := top 104
abbrev st_parts_of : Stmt := top 105
abbrev st_state_inside : Stmt := top 106
abbrev st_state_has : Stmt := top 107
abbrev st_step : Stmt := top 110
abbrev st_cut : Stmt := top 111
abbrev st_Moment_init : Stmt := inClass (top 113) 0
abbrev st_Journey_init : Stmt := inClass (top 114) 0
abbrev st_Journey_moment : Stmt := inClass (top 114) 2
abbrev st_sighting_at : Stmt := top 115
abbrev st_cut_all : Stmt := top 116
abbrev st_step_all : Stmt := top 117
abbrev st_first_states : Stmt := top 118
abbrev st_journey : Stmt := top 119
abbrev st_gap : Stmt := top 121
abbrev st_root_up : Stmt := top 122
abbrev st_verdict_of : Stmt := top 123
abbrev st_broken_word : Stmt := top 124
abbrev st_ticks_of : Stmt := top 125
abbrev st_told : Stmt := top 126
abbrev st_meeting : Stmt := top 127
abbrev st_Certificate_init : Stmt := inClass (top 129) 0
abbrev st_certify : Stmt := top 130
abbrev st_held : Stmt := top 132
abbrev st_start_holds : Stmt := top 133
abbrev st_step_holds : Stmt := top 134
abbrev st_refused_at : Stmt := top 135
abbrev st_Piece_init : Stmt := inClass (top 137) 0
abbrev st_Course_init : Stmt := inClass (top 138) 0
abbrev st_next_rows : Stmt := top 139
abbrev st_course : Stmt := top 140
abbrev st__law_row : Stmt := top 142
abbrev st__law_spread : Stmt := top 143
abbrev st__law_box : Stmt := top 144
abbrev st__law_member : Stmt := top 145
abbrev st__law_root : Stmt := top 146
abbrev st__law_pull : Stmt := top 147
abbrev st__law_push : Stmt := top 148
abbrev st__law_world : Stmt := top 149
abbrev st__law_motion : Stmt := top 150
abbrev st__law_seen : Stmt := top 151
abbrev st__law_craft : Stmt := top 152
abbrev st__law_in : Stmt := top 153
abbrev st__law_two : Stmt := top 154
abbrev st__law_held : Stmt := top 155
abbrev st__law_course_holds : Stmt := top 156
abbrev st__law_paper_holds : Stmt := top 157
abbrev st__law_meeting_true : Stmt := top 158
abbrev st__law_seen_edit : Stmt := top 159
abbrev st__law_edit : Stmt := top 160
abbrev st_law : Stmt := top 161
def fn : List He.DefD := [
  ⟨("find_named", none), "find_named", "find_named", defArgs st_find_named, defBody st_find_named, defScope st_find_named, [], []⟩,
  ⟨("put_named", none), "put_named", "put_named", defArgs st_put_named, defBody st_put_named, defScope st_put_named, [], []⟩,
  ⟨("drop_named", none), "drop_named", "drop_named", defArgs st_drop_named, defBody st_drop_named, defScope st_drop_named, [], []⟩,
  ⟨("craft_of", none), "craft_of", "craft_of", defArgs st_craft_of, defBody st_craft_of, defScope st_craft_of, [], []⟩,
  ⟨("check", none), "check", "check", defArgs st_check, defBody st_check, defScope st_check, [], []⟩,
  ⟨("is_name", none), "is_name", "is_name", defArgs st_is_name, defBody st_is_name, defScope st_is_name, [], []⟩,
  ⟨("is_tick", none), "is_tick", "is_tick", defArgs st_is_tick, defBody st_is_tick, defScope st_is_tick, [], []⟩,
  ⟨("is_box", none), "is_box", "is_box", defArgs st_is_box, defBody st_is_box, defScope st_is_box, [], []⟩,
  ⟨("Body", some "__init__"), "__init__", "Body.__init__", defArgs st_Body_init, defBody st_Body_init, defScope st_Body_init, [], []⟩,
  ⟨("Burn", some "__init__"), "__init__", "Burn.__init__", defArgs st_Burn_init, defBody st_Burn_init, defScope st_Burn_init, [], []⟩,
  ⟨("Sighting", some "__init__"), "__init__", "Sighting.__init__", defArgs st_Sighting_init, defBody st_Sighting_init, defScope st_Sighting_init, [], []⟩,
  ⟨("Craft", some "__init__"), "__init__", "Craft.__init__", defArgs st_Craft_init, defBody st_Craft_init, defScope st_Craft_init, [.adr (He.dflAt ("Craft", some "__init__") 0), .adr (He.dflAt ("Craft", some "__init__") 1)], []⟩,
  ⟨("Contents", some "__init__"), "__init__", "Contents.__init__", defArgs st_Contents_init, defBody st_Contents_init, defScope st_Contents_init, [.adr (He.dflAt ("Contents", some "__init__") 0), .adr (He.dflAt ("Contents", some "__init__") 1)], []⟩,
  ⟨("same_craft", none), "same_craft", "same_craft", defArgs st_same_craft, defBody st_same_craft, defScope st_same_craft, [], []⟩,
  ⟨("craft_data", none), "craft_data", "craft_data", defArgs st_craft_data, defBody st_craft_data, defScope st_craft_data, [], []⟩,
  ⟨("body_data", none), "body_data", "body_data", defArgs st_body_data, defBody st_body_data, defScope st_body_data, [], []⟩,
  ⟨("entries", none), "entries", "entries", defArgs st_entries, defBody st_entries, defScope st_entries, [], []⟩,
  ⟨("first_difference", none), "first_difference", "first_difference", defArgs st_first_difference, defBody st_first_difference, defScope st_first_difference, [], []⟩,
  ⟨("touched_at", none), "touched_at", "touched_at", defArgs st_touched_at, defBody st_touched_at, defScope st_touched_at, [], []⟩,
  ⟨("rules_differ", none), "rules_differ", "rules_differ", defArgs st_rules_differ, defBody st_rules_differ, defScope st_rules_differ, [], []⟩,
  ⟨("touched_crafts", none), "touched_crafts", "touched_crafts", defArgs st_touched_crafts, defBody st_touched_crafts, defScope st_touched_crafts, [], []⟩,
  ⟨("touched_sites", none), "touched_sites", "touched_sites", defArgs st_touched_sites, defBody st_touched_sites, defScope st_touched_sites, [], []⟩,
  ⟨("gone", none), "gone", "gone", defArgs st_gone, defBody st_gone, defScope st_gone, [], []⟩,
  ⟨("differences", none), "differences", "differences", defArgs st_differences, defBody st_differences, defScope st_differences, [], []⟩,
  ⟨("with_crafts", none), "with_crafts", "with_crafts", defArgs st_with_crafts, defBody st_with_crafts, defScope st_with_crafts, [], []⟩,
  ⟨("changed_craft", none), "changed_craft", "changed_craft", defArgs st_changed_craft, defBody st_changed_craft, defScope st_changed_craft, [], []⟩,
  ⟨("add_craft", none), "add_craft", "add_craft", defArgs st_add_craft, defBody st_add_craft, defScope st_add_craft, [], []⟩,
  ⟨("drop_craft", none), "drop_craft", "drop_craft", defArgs st_drop_craft, defBody st_drop_craft, defScope st_drop_craft, [], []⟩,
  ⟨("set_drift", none), "set_drift", "set_drift", defArgs st_set_drift, defBody st_set_drift, defScope st_set_drift, [], []⟩,
  ⟨("add_burn", none), "add_burn", "add_burn", defArgs st_add_burn, defBody st_add_burn, defScope st_add_burn, [], []⟩,
  ⟨("add_sighting", none), "add_sighting", "add_sighting", defArgs st_add_sighting, defBody st_add_sighting, defScope st_add_sighting, [], []⟩,
  ⟨("drop_sighting", none), "drop_sighting", "drop_sighting", defArgs st_drop_sighting, defBody st_drop_sighting, defScope st_drop_sighting, [], []⟩,
  ⟨("set_stride", none), "set_stride", "set_stride", defArgs st_set_stride, defBody st_set_stride, defScope st_set_stride, [], []⟩,
  ⟨("set_fineness", none), "set_fineness", "set_fineness", defArgs st_set_fineness, defBody st_set_fineness, defScope st_set_fineness, [], []⟩,
  ⟨("apply_edit", none), "apply_edit", "apply_edit", defArgs st_apply_edit, defBody st_apply_edit, defScope st_apply_edit, [], []⟩,
  ⟨("Catalogue", some "__init__"), "__init__", "Catalogue.__init__", defArgs st_Catalogue_init, defBody st_Catalogue_init, defScope st_Catalogue_init, [], []⟩,
  ⟨("Catalogue", some "edit"), "edit", "Catalogue.edit", defArgs st_Catalogue_edit, defBody st_Catalogue_edit, defScope st_Catalogue_edit, [], []⟩,
  ⟨("Catalogue", some "undo"), "undo", "Catalogue.undo", defArgs st_Catalogue_undo, defBody st_Catalogue_undo, defScope st_Catalogue_undo, [], []⟩,
  ⟨("add", none), "add", "add", defArgs st_add, defBody st_add, defScope st_add, [], []⟩,
  ⟨("subtract", none), "subtract", "subtract", defArgs st_subtract, defBody st_subtract, defScope st_subtract, [], []⟩,
  ⟨("scaled", none), "scaled", "scaled", defArgs st_scaled, defBody st_scaled, defScope st_scaled, [], []⟩,
  ⟨("multiply", none), "multiply", "multiply", defArgs st_multiply, defBody st_multiply, defScope st_multiply, [], []⟩,
  ⟨("square", none), "square", "square", defArgs st_square, defBody st_square, defScope st_square, [], []⟩,
  ⟨("quotient", none), "quotient", "quotient", defArgs st_quotient, defBody st_quotient, defScope st_quotient, [], []⟩,
  ⟨("root", none), "root", "root", defArgs st_root, defBody st_root, defScope st_root, [], []⟩,
  ⟨("meet", none), "meet", "meet", defArgs st_meet, defBody st_meet, defScope st_meet, [], []⟩,
  ⟨("hull", none), "hull", "hull", defArgs st_hull, defBody st_hull, defScope st_hull, [], []⟩,
  ⟨("widened", none), "widened", "widened", defArgs st_widened, defBody st_widened, defScope st_widened, [], []⟩,
  ⟨("middle", none), "middle", "middle", defArgs st_middle, defBody st_middle, defScope st_middle, [], []⟩,
  ⟨("width", none), "width", "width", defArgs st_width, defBody st_width, defScope st_width, [], []⟩,
  ⟨("size", none), "size", "size", defArgs st_size, defBody st_size, defScope st_size, [], []⟩,
  ⟨("inside", none), "inside", "inside", defArgs st_inside, defBody st_inside, defScope st_inside, [], []⟩,
  ⟨("has", none), "has", "has", defArgs st_has, defBody st_has, defScope st_has, [], []⟩,
  ⟨("box_add", none), "box_add", "box_add", defArgs st_box_add, defBody st_box_add, defScope st_box_add, [], []⟩,
  ⟨("box_subtract", none), "box_subtract", "box_subtract", defArgs st_box_subtract, defBody st_box_subtract, defScope st_box_subtract, [], []⟩,
  ⟨("box_hull", none), "box_hull", "box_hull", defArgs st_box_hull, defBody st_box_hull, defScope st_box_hull, [], []⟩,
  ⟨("box_widened", none), "box_widened", "box_widened", defArgs st_box_widened, defBody st_box_widened, defScope st_box_widened, [], []⟩,
  ⟨("box_meet", none), "box_meet", "box_meet", defArgs st_box_meet, defBody st_box_meet, defScope st_box_meet, [], []⟩,
  ⟨("box_inside", none), "box_inside", "box_inside", defArgs st_box_inside, defBody st_box_inside, defScope st_box_inside, [], []⟩,
  ⟨("box_has", none), "box_has", "box_has", defArgs st_box_has, defBody st_box_has, defScope st_box_has, [], []⟩,
  ⟨("square_length", none), "square_length", "square_length", defArgs st_square_length, defBody st_square_length, defScope st_square_length, [], []⟩,
  ⟨("box_size", none), "box_size", "box_size", defArgs st_box_size, defBody st_box_size, defScope st_box_size, [], []⟩,
  ⟨("pull_over", none), "pull_over", "pull_over", defArgs st_pull_over, defBody st_pull_over, defScope st_pull_over, [], []⟩,
  ⟨("push_at", none), "push_at", "push_at", defArgs st_push_at, defBody st_push_at, defScope st_push_at, [], []⟩,
  ⟨("State", some "__init__"), "__init__", "State.__init__", defArgs st_State_init, defBody st_State_init, defScope st_State_init, [], []⟩,
  ⟨("put", none), "put", "put", defArgs st_put, defBody st_put, defScope st_put, [], []⟩,
  ⟨("split", none), "split", "split", defArgs st_split, defBody st_split, defScope st_split, [], []⟩,
  ⟨("parts_of", none), "parts_of", "parts_of", defArgs st_parts_of, defBody st_parts_of, defScope st_parts_of, [], []⟩,
  ⟨("state_inside", none), "state_inside", "state_inside", defArgs st_state_inside, defBody st_state_inside, defScope st_state_inside, [], []⟩,
  ⟨("state_has", none), "state_has", "state_has", defArgs st_state_has, defBody st_state_has, defScope st_state_has, [], []⟩,
  ⟨("step", none), "step", "step", defArgs st_step, defBody st_step, defScope st_step, [], []⟩,
  ⟨("cut", none), "cut", "cut", defArgs st_cut, defBody st_cut, defScope st_cut, [], []⟩,
  ⟨("Moment", some "__init__"), "__init__", "Moment.__init__", defArgs st_Moment_init, defBody st_Moment_init, defScope st_Moment_init, [], []⟩,
  ⟨("Journey", some "__init__"), "__init__", "Journey.__init__", defArgs st_Journey_init, defBody st_Journey_init, defScope st_Journey_init, [], []⟩,
  ⟨("Journey", some "moment"), "moment", "Journey.moment", defArgs st_Journey_moment, defBody st_Journey_moment, defScope st_Journey_moment, [], []⟩,
  ⟨("sighting_at", none), "sighting_at", "sighting_at", defArgs st_sighting_at, defBody st_sighting_at, defScope st_sighting_at, [], []⟩,
  ⟨("cut_all", none), "cut_all", "cut_all", defArgs st_cut_all, defBody st_cut_all, defScope st_cut_all, [], []⟩,
  ⟨("step_all", none), "step_all", "step_all", defArgs st_step_all, defBody st_step_all, defScope st_step_all, [], []⟩,
  ⟨("first_states", none), "first_states", "first_states", defArgs st_first_states, defBody st_first_states, defScope st_first_states, [], []⟩,
  ⟨("journey", none), "journey", "journey", defArgs st_journey, defBody st_journey, defScope st_journey, [], []⟩,
  ⟨("gap", none), "gap", "gap", defArgs st_gap, defBody st_gap, defScope st_gap, [], []⟩,
  ⟨("root_up", none), "root_up", "root_up", defArgs st_root_up, defBody st_root_up, defScope st_root_up, [], []⟩,
  ⟨("verdict_of", none), "verdict_of", "verdict_of", defArgs st_verdict_of, defBody st_verdict_of, defScope st_verdict_of, [], []⟩,
  ⟨("broken_word", none), "broken_word", "broken_word", defArgs st_broken_word, defBody st_broken_word, defScope st_broken_word, [], []⟩,
  ⟨("ticks_of", none), "ticks_of", "ticks_of", defArgs st_ticks_of, defBody st_ticks_of, defScope st_ticks_of, [], []⟩,
  ⟨("told", none), "told", "told", defArgs st_told, defBody st_told, defScope st_told, [], []⟩,
  ⟨("meeting", none), "meeting", "meeting", defArgs st_meeting, defBody st_meeting, defScope st_meeting, [], []⟩,
  ⟨("Certificate", some "__init__"), "__init__", "Certificate.__init__", defArgs st_Certificate_init, defBody st_Certificate_init, defScope st_Certificate_init, [], []⟩,
  ⟨("certify", none), "certify", "certify", defArgs st_certify, defBody st_certify, defScope st_certify, [], []⟩,
  ⟨("held", none), "held", "held", defArgs st_held, defBody st_held, defScope st_held, [], []⟩,
  ⟨("start_holds", none), "start_holds", "start_holds", defArgs st_start_holds, defBody st_start_holds, defScope st_start_holds, [], []⟩,
  ⟨("step_holds", none), "step_holds", "step_holds", defArgs st_step_holds, defBody st_step_holds, defScope st_step_holds, [], []⟩,
  ⟨("refused_at", none), "refused_at", "refused_at", defArgs st_refused_at, defBody st_refused_at, defScope st_refused_at, [], []⟩,
  ⟨("Piece", some "__init__"), "__init__", "Piece.__init__", defArgs st_Piece_init, defBody st_Piece_init, defScope st_Piece_init, [], []⟩,
  ⟨("Course", some "__init__"), "__init__", "Course.__init__", defArgs st_Course_init, defBody st_Course_init, defScope st_Course_init, [], []⟩,
  ⟨("next_rows", none), "next_rows", "next_rows", defArgs st_next_rows, defBody st_next_rows, defScope st_next_rows, [], []⟩,
  ⟨("course", none), "course", "course", defArgs st_course, defBody st_course, defScope st_course, [], []⟩,
  ⟨("_law_row", none), "_law_row", "_law_row", defArgs st__law_row, defBody st__law_row, defScope st__law_row, [], []⟩,
  ⟨("_law_spread", none), "_law_spread", "_law_spread", defArgs st__law_spread, defBody st__law_spread, defScope st__law_spread, [], []⟩,
  ⟨("_law_box", none), "_law_box", "_law_box", defArgs st__law_box, defBody st__law_box, defScope st__law_box, [], []⟩,
  ⟨("_law_member", none), "_law_member", "_law_member", defArgs st__law_member, defBody st__law_member, defScope st__law_member, [], []⟩,
  ⟨("_law_root", none), "_law_root", "_law_root", defArgs st__law_root, defBody st__law_root, defScope st__law_root, [], []⟩,
  ⟨("_law_pull", none), "_law_pull", "_law_pull", defArgs st__law_pull, defBody st__law_pull, defScope st__law_pull, [], []⟩,
  ⟨("_law_push", none), "_law_push", "_law_push", defArgs st__law_push, defBody st__law_push, defScope st__law_push, [], []⟩,
  ⟨("_law_world", none), "_law_world", "_law_world", defArgs st__law_world, defBody st__law_world, defScope st__law_world, [], []⟩,
  ⟨("_law_motion", none), "_law_motion", "_law_motion", defArgs st__law_motion, defBody st__law_motion, defScope st__law_motion, [], []⟩,
  ⟨("_law_seen", none), "_law_seen", "_law_seen", defArgs st__law_seen, defBody st__law_seen, defScope st__law_seen, [], []⟩,
  ⟨("_law_craft", none), "_law_craft", "_law_craft", defArgs st__law_craft, defBody st__law_craft, defScope st__law_craft, [], []⟩,
  ⟨("_law_in", none), "_law_in", "_law_in", defArgs st__law_in, defBody st__law_in, defScope st__law_in, [], []⟩,
  ⟨("_law_two", none), "_law_two", "_law_two", defArgs st__law_two, defBody st__law_two, defScope st__law_two, [], []⟩,
  ⟨("_law_held", none), "_law_held", "_law_held", defArgs st__law_held, defBody st__law_held, defScope st__law_held, [], []⟩,
  ⟨("_law_course_holds", none), "_law_course_holds", "_law_course_holds", defArgs st__law_course_holds, defBody st__law_course_holds, defScope st__law_course_holds, [], []⟩,
  ⟨("_law_paper_holds", none), "_law_paper_holds", "_law_paper_holds", defArgs st__law_paper_holds, defBody st__law_paper_holds, defScope st__law_paper_holds, [], []⟩,
  ⟨("_law_meeting_true", none), "_law_meeting_true", "_law_meeting_true", defArgs st__law_meeting_true, defBody st__law_meeting_true, defScope st__law_meeting_true, [], []⟩,
  ⟨("_law_seen_edit", none), "_law_seen_edit", "_law_seen_edit", defArgs st__law_seen_edit, defBody st__law_seen_edit, defScope st__law_seen_edit, [], []⟩,
  ⟨("_law_edit", none), "_law_edit", "_law_edit", defArgs st__law_edit, defBody st__law_edit, defScope st__law_edit, [], []⟩,
  ⟨("law", none), "law", "law", defArgs st_law, defBody st_law, defScope st_law, [], []⟩]
def fa : List He.Fa := [.glo "OrreryError", .glo "CourseVoid", .glo "CourseLost", .glo "find_named", .glo "put_named", .glo "drop_named", .glo "craft_of", .glo "check", .glo "is_name", .glo "is_tick", .glo "is_box", .glo "Body", .glo "Burn", .glo "Sighting", .glo "Craft", .glo "Contents", .glo "same_craft", .glo "craft_data", .glo "body_data", .glo "entries", .glo "first_difference", .glo "touched_at", .glo "rules_differ", .glo "touched_crafts", .glo "touched_sites", .glo "gone", .glo "differences", .glo "with_crafts", .glo "changed_craft", .glo "add_craft", .glo "drop_craft", .glo "set_drift", .glo "add_burn", .glo "add_sighting", .glo "drop_sighting", .glo "set_stride", .glo "set_fineness", .glo "apply_edit", .glo "Catalogue", .glo "add", .glo "subtract", .glo "scaled", .glo "multiply", .glo "square", .glo "quotient", .glo "root", .glo "meet", .glo "hull", .glo "widened", .glo "middle", .glo "width", .glo "size", .glo "inside", .glo "has", .glo "box_add", .glo "box_subtract", .glo "box_hull", .glo "box_widened", .glo "box_meet", .glo "box_inside", .glo "box_has", .glo "square_length", .glo "box_size", .glo "pull_over", .glo "push_at", .glo "State", .glo "put", .glo "split", .glo "parts_of", .glo "state_inside", .glo "state_has", .glo "step", .glo "cut", .glo "Moment", .glo "Journey", .glo "sighting_at", .glo "cut_all", .glo "step_all", .glo "first_states", .glo "journey", .glo "gap", .glo "root_up", .glo "verdict_of", .glo "broken_word", .glo "ticks_of", .glo "told", .glo "meeting", .glo "Certificate", .glo "certify", .glo "held", .glo "start_holds", .glo "step_holds", .glo "refused_at", .glo "Piece", .glo "Course", .glo "next_rows", .glo "course", .glo "_law_row", .glo "_law_spread", .glo "_law_box", .glo "_law_member", .glo "_law_root", .glo "_law_pull", .glo "_law_push", .glo "_law_world", .glo "_law_motion", .glo "_law_seen", .glo "_law_craft", .glo "_law_in", .glo "_law_two", .glo "_law_held", .glo "_law_course_holds", .glo "_law_paper_holds", .glo "_law_meeting_true", .glo "_law_seen_edit", .glo "_law_edit", .glo "law", .free "len", .free "int", .free "range", .free "tuple", .free "list", .free "min", .free "max", .free "sum", .free "abs", .free "zip", .free "super", .free "str", .int "LAST_TICK" 100000, .int "MOST" (10 ^ 15), .int "MOST_DRIFT" (10 ^ 12), .int "MOST_CRAFT" 20, .int "MOST_OF_CRAFT" 20, .int "KEPT" 100, .int "LIMIT" (10 ^ 40), .cls "Body", .mkr "Body", .noat "Body" "mu", .noat "Body" "oblateness", .noat "Body" "turn", .cls "Burn", .mkr "Burn", .noat "Burn" "begin", .noat "Burn" "end", .noat "Burn" "push", .cls "Sighting", .mkr "Sighting", .noat "Sighting" "at", .noat "Sighting" "place", .cls "Craft", .mkr "Craft", .noat "Craft" "name", .noat "Craft" "start", .noat "Craft" "place", .noat "Craft" "speed", .noat "Craft" "drift", .noat "Craft" "burns", .noat "Craft" "sightings", .cls "Contents", .mkr "Contents", .noat "Contents" "body", .noat "Contents" "stride", .noat "Contents" "fineness", .noat "Contents" "crafts", .noat "Contents" "sites", .cls "Catalogue", .mkr "Catalogue", .noat "Catalogue" "contents", .noat "Catalogue" "version", .noat "Catalogue" "earlier", .meth "Catalogue" "edit", .meth "Catalogue" "undo", .cls "State", .mkr "State", .noat "State" "place", .noat "State" "speed", .cls "Moment", .mkr "Moment", .noat "Moment" "at", .noat "Moment" "states", .cls "Journey", .mkr "Journey", .noat "Journey" "moments", .noat "Journey" "ending", .noat "Journey" "broken", .meth "Journey" "moment", .cls "Certificate", .mkr "Certificate", .noat "Certificate" "body", .noat "Certificate" "fineness", .noat "Certificate" "craft", .noat "Certificate" "claims", .cls "Piece", .mkr "Piece", .noat "Piece" "begin", .noat "Piece" "end", .noat "Piece" "parts", .cls "Course", .mkr "Course", .noat "Course" "pieces", .noat "Course" "ending"]
def keysOne : List Str := ["set body", "set stride", "set fineness", "add craft", "drop craft", "add site", "drop site"]
def keysTwo : List Str := ["set drift", "add burn", "drop burn", "add sighting", "drop sighting"]
def tabs : List He.Tab := [(fun K => He.ga K "ONE", keysOne), (fun K => He.ga K "TWO", keysTwo)]
/-- the i-th item of the tuple at a, if it is an object -/
def itemAt (K : Fg) (a : Addr) (i : Nat) : Addr := match K.lookup a with
  | some ⟨_, _, .seq its _, _⟩ => (match its.toList[i]? with
    | some (.ref b) => b
    | _ => 0)
  | _ => 0
def tupA (K : Fg) (a : Addr) (vs : List V) : Bool := match K.lookup a with
  | some ⟨.type c, _, .seq its _, _⟩ => decide (c = "tuple") && (decide (its.size ≤ sizeLine) && He.relAll vs its.toList)
  | _ => false
theorem tupA_ok {K : Fg} {a : Addr} {vs : List V} (h : tupA K a vs = true) (H : Hp) : SqT K H a vs := by
  unfold tupA at h
  cases q : K.lookup a with
  | none =>
    rw [q] at h
    cases h
  | some o =>
    obtain ⟨oc, od, dt, osl⟩ := o
    rw [q] at h
    cases oc with
    | type c =>
      cases dt with
      | seq its n =>
        obtain ⟨h1, h2⟩ := He.ba (show (decide (c = "tuple") && (decide (its.size ≤ sizeLine) && He.relAll vs its.toList)) = true from h)
        obtain ⟨h3, h4⟩ := He.ba h2
        exact .inr ⟨_, its, n, q, congrArg Value.type (of_decide_eq_true h1), rfl, of_decide_eq_true h3, He.relAll_ok h4⟩
      | _ => cases h
    | _ => cases dt <;> cases h
def zeroA (K : Fg) (i : Nat) : Addr := itemAt K (He.ga K "NOTHING") i
def builtinB (K : Fg) (x : Str) (id : String) : Bool := match PySem.W.nsIn K mainGlobals x with
  | some (some (.builtin j)) => decide (j = id)
  | _ => false
theorem builtinB_ok {K : Fg} {h : Heap} {mg : Str → Option Value} (X : K.In h) (G : h.Ns mainGlobals mg) {x : Str} {id : String} (c : builtinB K x id = true) : mg x = some (.builtin id) := by
  unfold builtinB at c
  cases e : PySem.W.nsIn K mainGlobals x with
  | none => rw [e] at c; cases c
  | some o =>
    rw [e] at c
    cases o with
    | none => cases c
    | some v =>
      cases v with
      | builtin j =>
        have ej : j = id := of_decide_eq_true c
        rw [ej] at e
        exact PySem.W.mg_of X G e
      | _ => cases c
def dCraft (i : Nat) (K : Fg) : Addr := He.dflAt ("Craft", some "__init__") i K
def dConts (i : Nat) (K : Fg) : Addr := He.dflAt ("Contents", some "__init__") i K
def one (K : Fg) : List (Str × He.Dv) := [("set stride", .glo "set_stride"), ("set fineness", .glo "set_fineness"), ("add craft", .glo "add_craft"), ("drop craft", .glo "drop_craft")]
def two (K : Fg) : List (Str × He.Dv) := [("set drift", .glo "set_drift"), ("add burn", .glo "add_burn"), ("add sighting", .glo "add_sighting"), ("drop sighting", .glo "drop_sighting")]
/-! CourseLost's __init__ -/
abbrev st_lost : Stmt := inClass (top 12) 0
def lostAt (K : Fg) : Addr := He.ma K (He.ga K "CourseLost") "__init__"
def lostF (K : Fg) : Option FuncData := match K.lookup (lostAt K) with
  | some ⟨_, _, .func fd, _⟩ => some fd
  | _ => none
abbrev LostW : Type := Option (Str × Str × Arguments × FuncBody × Scope × Addr × List Str × Addr)
def lostW (K : Fg) : LostW := (lostF K).map fun fd => (fd.name, fd.qualname, fd.params, fd.body, fd.scope, fd.globals, fd.closure.map (·.1), fd.builtins)
def lostV : LostW := some ("__init__", "CourseLost.__init__", defArgs st_lost, .stmts (defBody st_lost), defScope st_lost, mainGlobals, ["__class__"], builtinsNs)
def lostCell (K : Fg) : Addr := match lostF K with
  | some fd => (match fd.closure with
    | [q] => q.2
    | _ => 0)
  | none => 0
def lostCode (K : Fg) : Addr := match lostF K with
  | some fd => (match fd.code with
    | .ref c => c
    | _ => 0)
  | none => 0
def lostFile (K : Fg) (file : Str) : Bool := match K.lookup (lostCode K) with
  | some ⟨_, _, .fields vs, _⟩ => (match (vs[2]? : Option Value) with
    | some (Value.str f _) => decide (f = file)
    | _ => false)
  | _ => false
def lostCellB (K : Fg) : Bool := match K.lookup (lostCell K) with
  | some ⟨_, _, .cell (some (.ref D)), _⟩ => decide (D = He.ga K "CourseLost")
  | _ => false
def lostCodeB (K : Fg) : Bool := match lostF K with
  | some fd => decide (fd.code = .ref (lostCode K)) && (decide (fd.closure = [(("__class__" : Str), lostCell K)]) && decide (fd.defaults = .none))
  | none => false
def lostB (K : Fg) : Bool := lostCodeB K && (PySem.W.codeIn K (.ref (lostCode K)) "CourseLost.__init__" && (lostFile K PySem.Challenge.pw_orrery_k85_whole_catalogues_hold_their_m.main.file && (lostCellB K &&
  (decide (PySem.W.mroIn K (He.ga K "CourseLost") (.ref (He.ga K "CourseLost")) = some true) && (decide (PySem.W.ks_superIn K (He.ga K "CourseLost") (He.ga K "CourseLost") "__init__" = some (some (.builtin "ValueError.__init__"))) &&
  (He.eqO (PySem.W.nsIn K cStatics "thirdparty.any") (some none) && (decide (PySem.W.subIn K (.ref (He.ga K "CourseLost")) (.type "ValueError") = some true) && (PySem.W.excInitIn K (He.ga K "CourseLost") PySem.HandSPX.veTail "ValueError.__new__" &&
  (He.eqO (PySem.W.findIn K (.ref (He.ga K "CourseLost")) "__setattr__") (some (some (.builtin "object.__setattr__"))) && (He.eqO (PySem.W.findIn K (.ref (He.ga K "CourseLost")) "at") (some none) && (He.eqO (PySem.W.findIn K (.ref (He.ga K "CourseLost")) "__init__") (some (some (.ref (lostAt K)))) &&
  (decide (PySem.W.typeIn K (.ref (lostAt K)) = some (.type "function")) && (PySem.W.keepIn K (.ref (He.ga K "CourseLost")) && (decide (PySem.W.subIn K (.ref (He.ga K "CourseLost")) (.type "BaseException") = some true) && (decide (PySem.W.typeIn K (.ref (He.ga K "CourseLost")) = some (.type "type")) &&
  (PySem.W.hasDictIn K (He.ga K "CourseLost") && (decide (PySem.W.exmOne K (.ref (He.ga K "CourseLost")) (.ref (He.ga K "CourseLost")) = some true) && He.eqO (PySem.W.nsIn K mainGlobals "CourseLost") (some (some (.ref (He.ga K "CourseLost")))))))))))))))))))))
/-- the rest of what is asked of the head -/
def moreB (K : Fg) : Bool := builtinB K "isqrt" "math.isqrt" && (He.tupB K "FACTORS" [.int 1, .int 1, .int 3] && (tupA K (He.ga K "NOTHING") [.ref (zeroA K 0), .ref (zeroA K 1), .ref (zeroA K 2)] &&
  (tupA K (zeroA K 0) [.int 0, .int 0] && (tupA K (zeroA K 1) [.int 0, .int 0] && (tupA K (zeroA K 2) [.int 0, .int 0] &&
  (tupA K (dCraft 0 K) [] && (tupA K (dCraft 1 K) [] && (tupA K (dConts 0 K) [] && (tupA K (dConts 1 K) [] && (He.valsB K (He.ga K "ONE") (one K) && (He.valsB K (He.ga K "TWO") (two K) &&
  (He.eqO (PySem.W.nsIn K mainGlobals "NOTHING") (some (some (.ref (He.ga K "NOTHING")))) && (He.eqO (PySem.W.nsIn K mainGlobals "FACTORS") (some (some (.ref (He.ga K "FACTORS")))) &&
  (He.eqO (PySem.W.nsIn K mainGlobals "ONE") (some (some (.ref (He.ga K "ONE")))) && (He.eqO (PySem.W.nsIn K mainGlobals "TWO") (some (some (.ref (He.ga K "TWO")))) && ((["set drift", "add burn", "add sighting", "drop sighting"] : List Str).all (fun x => He.eqO (PySem.W.nsIn K (He.ga K "ONE") x) (some none)) && lostB K))))))))))))))))
end Or
set_option maxHeartbeats 0
/-! The head: what is looked at behind the top. -/
namespace Or
open PySem PySem.Spec PyProof.Rows L2 L3
abbrev R : PySem.W.OpenRow := PySem.W.OpenLaw.row PySem.Challenge.rw_orrery_k85_whole_catalogues_hold_their_m
def kid (g : Addr → Option Obj) (a : Addr) : List Addr := match g a with
  | some o => (match o.data with
    | .seq its _ => its.toList.flatMap He.refV
    | .dict es _ => es.toList.flatMap fun e => He.refV e.val
    | .func fd => He.refV fd.code ++ (He.refV fd.defaults ++ fd.closure.map (·.2))
    | .cls cd => [cd.ns]
    | _ => [])
  | none => []
def lev (g : Addr → Option Obj) : Nat → List Addr → List Addr
  | 0, l => l
  | n + 1, l => l ++ lev g n (l.flatMap (kid g))
def adrs (g : Addr → Option Obj) : List Addr := cStatics :: lev g 5 [mainGlobals]
abbrev AlL : Type := He.AlT × (Bool × LostW)
def obsK (K : Fg) : AlL := (He.obsT fa fn tabs K, (moreB K, lostW K))
def obsL (g : Addr → Option Obj) : AlL := obsK (He.frG g (adrs g))
def valL (w : World) : AlL := (He.valT fn tabs w, (true, lostV))
def hookL : PySem.W.Hook where
  α := AlL
  obs := fun s => obsL s.heap.get?
  val := fun w => valL w
  says := fun w h => ∃ K : Fg, K.In h ∧ He.SaysT fa fn tabs w K ∧ moreB K = true ∧ lostW K = lostV
  of := fun w s e => ⟨_, He.frG_in, congrArg (fun z : AlL => z.1) e, congrArg (fun z : AlL => z.2.1) e, congrArg (fun z : AlL => z.2.2) e⟩
  keeps := fun _ _ _ ⟨K, hK, c⟩ k => ⟨K, PySem.W.Frag.In.keeps hK k, c⟩
def obL (s : PySem.W.SharedT) : AlL := obsL (HandSHeadRun.getT s)
theorem obL_eq (s : PySem.W.SharedT) : obL s = hookL.obs s.abs := by
  have e : HandSHeadRun.getT s = s.abs.heap.get? := funext (HandSHeadRun.getT_eq s)
  unfold obL
  rw [e] <;> rfl
end Or
set_option maxHeartbeats 0
/-! The run of the top, looked at: six equations at each answer of special-get-raises (each alone takes 65 s and up to 11.3 GB). -/
namespace Or
open PySem PySem.Spec PyProof.Rows L2 L3
noncomputable def W0 (b : Bool) (w : World) : Option (Shared × PySem.W.SharedT) := HandSHeadRun.wholeF (fun p => HandSHeadRun.stepQ (HandSHeadRun.denQ HandSHeadRun.tabQ) p (w.withFollow "special-get-raises" b)) HandSHeadRun.fenceQ 60000 R.prog
def kF (s : PySem.W.SharedT) : Fg := He.frG (HandSHeadRun.getT s) (adrs (HandSHeadRun.getT s))
def ckF (fs : List He.Fa) (ds : List He.DefD) (K : Fg) : Bool × List He.FnW := ((fs.all fun f => f.ok K) && ds.all fun d => d.ok K, ds.map fun d => He.fnW K d.at_)
abbrev fa1 : List He.Fa := fa.take 110
abbrev fa2 : List He.Fa := (fa.drop 110).take 45
abbrev fa3 : List He.Fa := (fa.drop 110).drop 45
abbrev fn1 : List He.DefD := fn.take 38
abbrev fn2 : List He.DefD := (fn.drop 38).take 36
abbrev fn3 : List He.DefD := (fn.drop 38).drop 36
def qv : Program := PySem.W.view R.prog [0, 161]
def tn0 : List Str := [("OrreryError" : Str), ("BadArgument" : Str), ("NoSuchCraft" : Str), ("NoSuchSite" : Str), ("TooMany" : Str), ("BeforeStart" : Str), ("BurnsOverlap" : Str), ("NoSuchBurn" : Str), ("NoSuchSighting" : Str), ("CourseVoid" : Str), ("CourseLost" : Str), ("find_named" : Str), ("put_named" : Str), ("drop_named" : Str), ("craft_of" : Str), ("site_of" : Str), ("LAST_TICK" : Str), ("MOST" : Str), ("MOST_DRIFT" : Str), ("check" : Str)]
def tn1 : List Str := [("is_name" : Str), ("is_tick" : Str), ("is_box" : Str), ("Body" : Str), ("Burn" : Str), ("Sighting" : Str), ("Craft" : Str), ("Contents" : Str), ("same_craft" : Str), ("craft_data" : Str), ("body_data" : Str), ("entries" : Str), ("first_difference" : Str), ("touched_at" : Str), ("rules_differ" : Str), ("touched_crafts" : Str), ("touched_sites" : Str), ("gone" : Str), ("differences" : Str), ("MOST_CRAFT" : Str)]
def tn2 : List Str := [("MOST_SITES" : Str), ("MOST_OF_CRAFT" : Str), ("with_crafts" : Str), ("with_sites" : Str), ("changed_craft" : Str), ("add_craft" : Str), ("drop_craft" : Str), ("set_drift" : Str), ("add_burn" : Str), ("drop_burn" : Str), ("add_sighting" : Str), ("drop_sighting" : Str), ("add_site" : Str), ("drop_site" : Str), ("set_body" : Str), ("set_stride" : Str), ("set_fineness" : Str), ("ONE" : Str), ("TWO" : Str), ("apply_edit" : Str)]
def tn3 : List Str := [("KEPT" : Str), ("Catalogue" : Str), ("add" : Str), ("subtract" : Str), ("scaled" : Str), ("multiply" : Str), ("square" : Str), ("quotient" : Str), ("root" : Str), ("meet" : Str), ("hull" : Str), ("widened" : Str), ("middle" : Str), ("width" : Str), ("size" : Str), ("inside" : Str), ("has" : Str), ("box_add" : Str), ("box_subtract" : Str), ("box_hull" : Str)]
def tn4 : List Str := [("box_widened" : Str), ("box_meet" : Str), ("box_inside" : Str), ("box_has" : Str), ("square_length" : Str), ("box_size" : Str), ("FACTORS" : Str), ("pull_over" : Str), ("NOTHING" : Str), ("push_at" : Str), ("State" : Str), ("put" : Str), ("split" : Str), ("parts_of" : Str), ("state_inside" : Str), ("state_has" : Str), ("LIMIT" : Str), ("step" : Str), ("cut" : Str), ("Moment" : Str)]
def tn5 : List Str := [("Journey" : Str), ("sighting_at" : Str), ("cut_all" : Str), ("step_all" : Str), ("first_states" : Str), ("journey" : Str), ("gap" : Str), ("root_up" : Str), ("verdict_of" : Str), ("broken_word" : Str), ("ticks_of" : Str), ("told" : Str), ("meeting" : Str), ("Certificate" : Str), ("certify" : Str), ("held" : Str), ("start_holds" : Str), ("step_holds" : Str), ("refused_at" : Str), ("Piece" : Str)]
def tn6 : List Str := [("Course" : Str), ("next_rows" : Str), ("course" : Str), ("_law_row" : Str), ("_law_spread" : Str), ("_law_box" : Str), ("_law_member" : Str), ("_law_root" : Str), ("_law_pull" : Str), ("_law_push" : Str), ("_law_world" : Str), ("_law_motion" : Str), ("_law_seen" : Str), ("_law_craft" : Str), ("_law_in" : Str), ("_law_two" : Str), ("_law_held" : Str), ("_law_course_holds" : Str), ("_law_paper_holds" : Str), ("_law_meeting_true" : Str)]
def tn7 : List Str := [("_law_seen_edit" : Str), ("_law_edit" : Str)]
def topNames : List Str := tn0 ++ (tn1 ++ (tn2 ++ (tn3 ++ (tn4 ++ (tn5 ++ (tn6 ++ (tn7)))))))
abbrev Row2 : Type := Bool × Bool × Bool × List (Option (List (Option (Str × Int)))) × LostW × Bool
noncomputable def seeF (x : Shared × PySem.W.SharedT) : Row2 := (PySem.W.staticsOk (importedModules R.prog.main.body) x.1.heap x.2.abs.heap, PySem.W.gensDone x.2.abs, PySem.W.laidKept x.1.heap x.2.abs.heap, tabs.map (fun t => He.dicW (kF x.2) (t.1 (kF x.2))), lostW (kF x.2), moreB (kF x.2))
def seeV (w : World) : Row2 := (true, true, true, tabs.map (fun t => some (He.keysIn w.params t.2)), lostV, true)
theorem run1f (w : World) : (W0 false w).map (fun x => PySem.W.namesBound R.prog x.2.abs.heap) = some true := by
  kernel_rfl
theorem run2f (w : World) : (W0 false w).map (fun x => HandSHeadRun.seenQ qv topNames (importedModules R.prog.main.body) (fun s => PySem.W.xlAt qv [] s && PySem.W.recOk R.toRowW.records s) x.2.abs) = some (PySem.W.openGood qv topNames) := by
  kernel_rfl
theorem run3f (w : World) : (W0 false w).map (fun x => ckF fa1 fn1 (kF x.2)) = some (true, fn1.map He.DefD.val) := by
  kernel_rfl
theorem run4f (w : World) : (W0 false w).map seeF = some (seeV (w.withFollow "special-get-raises" false)) := by
  kernel_rfl
theorem run6f (w : World) : (W0 false w).map (fun x => ckF fa2 fn2 (kF x.2)) = some (true, fn2.map He.DefD.val) := by
  kernel_rfl
theorem run5f (w : World) : (W0 false w).map (fun x => ckF fa3 fn3 (kF x.2)) = some (true, fn3.map He.DefD.val) := by
  kernel_rfl
theorem run1t (w : World) : (W0 true w).map (fun x => PySem.W.namesBound R.prog x.2.abs.heap) = some true := by
  kernel_rfl
theorem run2t (w : World) : (W0 true w).map (fun x => HandSHeadRun.seenQ qv topNames (importedModules R.prog.main.body) (fun s => PySem.W.xlAt qv [] s && PySem.W.recOk R.toRowW.records s) x.2.abs) = some (PySem.W.openGood qv topNames) := by
  kernel_rfl
theorem run3t (w : World) : (W0 true w).map (fun x => ckF fa1 fn1 (kF x.2)) = some (true, fn1.map He.DefD.val) := by
  kernel_rfl
theorem run4t (w : World) : (W0 true w).map seeF = some (seeV (w.withFollow "special-get-raises" true)) := by
  kernel_rfl
theorem run6t (w : World) : (W0 true w).map (fun x => ckF fa2 fn2 (kF x.2)) = some (true, fn2.map He.DefD.val) := by
  kernel_rfl
theorem run5t (w : World) : (W0 true w).map (fun x => ckF fa3 fn3 (kF x.2)) = some (true, fn3.map He.DefD.val) := by
  kernel_rfl
end Or
set_option maxHeartbeats 4000000
/-! A logic over the hand layer: slots hold data, data stands in a part B of the heap that never changes. -/
namespace L3
open PySem PySem.Spec PyProof.Rows L2

/-! ### predicates of values that stay true as the heap grows -/
structure MP where
  p : Hp → V → Prop
  mono : ∀ {B B' : Hp} {v : V}, Same B B' → p B v → p B' v
def AllR : List MP → Hp → List V → Prop
  | [], _, [] => True
  | P :: Ps, B, v :: vs => P.p B v ∧ AllR Ps B vs
  | [], _, _ :: _ => False
  | _ :: _, _, [] => False
theorem AllR.mono {B B' : Hp} (e : Same B B') : ∀ {Ps : List MP} {vs : List V}, AllR Ps B vs → AllR Ps B' vs
  | [], [], _ => trivial
  | P :: Ps, v :: vs, h => ⟨P.mono e h.1, AllR.mono e h.2⟩
  | [], _ :: _, h => h.elim
  | _ :: _, [], h => h.elim
theorem AllR.length {B : Hp} : ∀ {Ps : List MP} {vs : List V}, AllR Ps B vs → vs.length = Ps.length
  | [], [], _ => rfl
  | P :: Ps, v :: vs, h => congrArg Nat.succ (AllR.length h.2)
  | [], _ :: _, h => h.elim
  | _ :: _, [], h => h.elim
theorem AllR.get {B : Hp} : ∀ {Ps : List MP} {vs : List V} {i : Nat} {P : MP}, AllR Ps B vs → Ps[i]? = some P → ∃ v, vs[i]? = some v ∧ P.p B v
  | [], [], i, P, _, e => by simp at e
  | Q :: Ps, v :: vs, 0, P, h, e => by
    simp at e
    subst e
    exact ⟨v, rfl, h.1⟩
  | Q :: Ps, v :: vs, i + 1, P, h, e => by
    obtain ⟨u, e1, e2⟩ := AllR.get (i := i) (P := P) h.2 (by simpa using e)
    exact ⟨u, by simpa using e1, e2⟩
  | [], _ :: _, _, _, h, _ => h.elim
  | _ :: _, [], _, _, h, _ => h.elim
theorem AllR.append {B : Hp} : ∀ {Ps Qs : List MP} {vs us : List V}, AllR Ps B vs → AllR Qs B us → AllR (Ps ++ Qs) B (vs ++ us)
  | [], _, [], _, _, h => h
  | P :: Ps, _, v :: vs, _, h, g => ⟨h.1, AllR.append h.2 g⟩
  | [], _, _ :: _, _, h, _ => h.elim
  | _ :: _, _, [], _, h, _ => h.elim
theorem AllR.set {B : Hp} {P : MP} {v : V} (hv : P.p B v) : ∀ {Ps : List MP} {vs : List V} (i : Nat), AllR Ps B vs → AllR (Ps.set i P) B (vs.set i v)
  | [], [], _, _ => trivial
  | Q :: Ps, u :: vs, 0, h => ⟨hv, h.2⟩
  | Q :: Ps, u :: vs, i + 1, h => ⟨h.1, AllR.set hv i h.2⟩
  | [], _ :: _, _, h => h.elim
  | _ :: _, [], _, h => h.elim
theorem AllR.drop {B : Hp} : ∀ {Ps : List MP} {vs : List V} (n : Nat), AllR Ps B vs → AllR (Ps.drop n) B (vs.drop n)
  | _, _, 0, h => h
  | [], [], _ + 1, _ => trivial
  | _ :: _, _ :: _, n + 1, h => AllR.drop n h.2
  | [], _ :: _, _ + 1, h => h.elim
  | _ :: _, [], _ + 1, h => h.elim
theorem AllR.take {B : Hp} : ∀ {Ps : List MP} {vs : List V} (n : Nat), AllR Ps B vs → AllR (Ps.take n) B (vs.take n)
  | _, _, 0, _ => trivial
  | [], [], _ + 1, _ => trivial
  | _ :: _, _ :: _, n + 1, h => ⟨h.1, AllR.take n h.2⟩
  | [], _ :: _, _ + 1, h => h.elim
  | _ :: _, [], _ + 1, h => h.elim
theorem SqT_mono {K : Fg} {B B' : Hp} {a : Addr} {xs : List V} (e : Same B B') (h : SqT K B a xs) : SqT K B' a xs := by
  rcases h with (h | ⟨o, h⟩) | h
  · exact .inl (.inl (e _ _ h))
  · exact .inl (.inr ⟨o, e _ _ h⟩)
  · exact .inr h
def eqv (x : V) : MP := ⟨fun _ v => v = x, fun _ h => h⟩
def anyV : MP := ⟨fun _ _ => True, fun _ h => h⟩
def tupOf (K : Fg) (Ps : List MP) : MP := ⟨fun B v => ∃ p vs, v = .ref p ∧ SqT K B p vs ∧ AllR Ps B vs, fun e ⟨p, vs, h1, h2, h3⟩ => ⟨p, vs, h1, SqT_mono e h2, h3.mono e⟩⟩
def lstOf (Ps : List MP) : MP := ⟨fun B v => ∃ p vs, v = .ref p ∧ B p = some (.lst vs) ∧ AllR Ps B vs, fun e ⟨p, vs, h1, h2, h3⟩ => ⟨p, vs, h1, e _ _ h2, h3.mono e⟩⟩
/-- a list that is read only -/
def rdlOf (K : Fg) (Ps : List MP) : MP := ⟨fun B v => ∃ p vs, v = .ref p ∧ SqL K B p vs ∧ AllR Ps B vs, fun e ⟨p, vs, h1, h2, h3⟩ => ⟨p, vs, h1, e.seq h2, h3.mono e⟩⟩
def insOf (C : Addr) (fs : List (Str × MP)) : MP := ⟨fun B v => ∃ p dx vs, v = .ref p ∧ B p = some (.ins C dx vs) ∧ vs.map Prod.fst = fs.map Prod.fst ∧ AllR (fs.map Prod.snd) B (vs.map Prod.snd),
  fun e ⟨p, dx, vs, h1, h2, h3, h4⟩ => ⟨p, dx, vs, h1, e _ _ h2, h3, h4.mono e⟩⟩
def MP.le (P Q : MP) : Prop := ∀ B v, P.p B v → Q.p B v
theorem MP.le_refl (P : MP) : P.le P := fun _ _ h => h
theorem MP.le_of_eq {P Q : MP} (h : P = Q) : P.le Q := by subst h; exact P.le_refl
theorem fld_of {B : Hp} {f : Str} {P : MP} : ∀ {fs : List (Str × MP)} {vs : List (Str × V)}, vs.map Prod.fst = fs.map Prod.fst → AllR (fs.map Prod.snd) B (vs.map Prod.snd) → fs.lookup f = some P → ∃ u, vs.lookup f = some u ∧ P.p B u
  | [], [], _, _, e => by cases e
  | [], _ :: _, h, _, _ => by cases h
  | _ :: _, [], h, _, _ => by cases h
  | (g, Q) :: fs, (g', u) :: vs, h, a, e => by
    have h1 : g' = g ∧ vs.map Prod.fst = fs.map Prod.fst := by simpa using h
    obtain ⟨rfl, h2⟩ := h1
    have a2 : Q.p B u ∧ AllR (fs.map Prod.snd) B (vs.map Prod.snd) := a
    have e2 : (match f == g' with | true => some Q | false => fs.lookup f) = some P := e
    show ∃ w, (match f == g' with | true => some u | false => vs.lookup f) = some w ∧ P.p B w
    cases q : (f == g') with
    | true =>
      rw [q] at e2
      have e3 : Q = P := Option.some.inj e2
      subst e3
      exact ⟨u, rfl, a2.1⟩
    | false =>
      rw [q] at e2
      exact fld_of h2 a2.2 e2
theorem fld_none {f : Str} : ∀ {fs : List (Str × MP)} {vs : List (Str × V)}, vs.map Prod.fst = fs.map Prod.fst → fs.lookup f = none → vs.lookup f = none
  | [], [], _, _ => rfl
  | [], _ :: _, h, _ => by cases h
  | _ :: _, [], h, _ => by cases h
  | (g, Q) :: fs, (g', u) :: vs, h, e => by
    have h1 : g' = g ∧ vs.map Prod.fst = fs.map Prod.fst := by simpa using h
    obtain ⟨rfl, h2⟩ := h1
    have e2 : (match f == g' with | true => some Q | false => fs.lookup f) = none := e
    show (match f == g' with | true => some u | false => vs.lookup f) = none
    cases q : (f == g') with
    | true =>
      rw [q] at e2
      cases e2
    | false =>
      rw [q] at e2
      exact fld_none h2 e2
/-! ### data -/
class Rep (α : Type) where
  mp : Fg → α → MP
def is (K : Fg) {α : Type} [Rep α] (a : α) : MP := Rep.mp K a
instance : Rep Int := ⟨fun _ i => eqv (.int i)⟩
instance : Rep Bool := ⟨fun _ b => eqv (.bl b)⟩
instance : Rep Str := ⟨fun _ s => eqv (.str s)⟩
/-- None -/
inductive Non where | non
instance : Rep Non := ⟨fun _ _ => eqv .non⟩
/-- an unknown thing -/
inductive Any where | any
instance : Rep Any := ⟨fun _ _ => anyV⟩
structure T2 (α β : Type) where
  a : α
  b : β
structure T3 (α β γ : Type) where
  a : α
  b : β
  c : γ
structure T4 (α β γ δ : Type) where
  a : α
  b : β
  c : γ
  d : δ
structure T5 (α β γ δ ε : Type) where
  a : α
  b : β
  c : γ
  d : δ
  e : ε
structure T7 (α β γ δ ε ζ η : Type) where
  a : α
  b : β
  c : γ
  d : δ
  e : ε
  f : ζ
  g : η
structure T9 (α β γ δ ε ζ η θ ι : Type) where
  a : α
  b : β
  c : γ
  d : δ
  e : ε
  f : ζ
  g : η
  h : θ
  i : ι
section
variable {α β γ δ ε ζ η θ ι : Type} [Rep α] [Rep β] [Rep γ] [Rep δ] [Rep ε] [Rep ζ] [Rep η] [Rep θ] [Rep ι]
instance : Rep (T2 α β) := ⟨fun K d => tupOf K [is K d.a, is K d.b]⟩
instance : Rep (T3 α β γ) := ⟨fun K d => tupOf K [is K d.a, is K d.b, is K d.c]⟩
instance : Rep (T4 α β γ δ) := ⟨fun K d => tupOf K [is K d.a, is K d.b, is K d.c, is K d.d]⟩
instance : Rep (T5 α β γ δ ε) := ⟨fun K d => tupOf K [is K d.a, is K d.b, is K d.c, is K d.d, is K d.e]⟩
instance : Rep (T7 α β γ δ ε ζ η) := ⟨fun K d => tupOf K [is K d.a, is K d.b, is K d.c, is K d.d, is K d.e, is K d.f, is K d.g]⟩
instance : Rep (T9 α β γ δ ε ζ η θ ι) := ⟨fun K d => tupOf K [is K d.a, is K d.b, is K d.c, is K d.d, is K d.e, is K d.f, is K d.g, is K d.h, is K d.i]⟩
instance : Rep (List α) := ⟨fun K xs => lstOf (xs.map (is K))⟩
/-- a tuple of any length -/
structure Tup (α : Type) where
  l : List α
instance : Rep (Tup α) := ⟨fun K xs => tupOf K (xs.l.map (is K))⟩
/-- a list that may be locked -/
structure Rdl (α : Type) where
  l : List α
instance : Rep (Rdl α) := ⟨fun K xs => rdlOf K (xs.l.map (is K))⟩
instance : Rep (Option α) := ⟨fun K x => match x with
  | none => eqv .non
  | some a => is K a⟩
end
/-! ### states -/
structure Own where
  i : Nat
  p : Addr → Hp → HO → Prop
  mono : ∀ {l : Addr} {B B' : Hp} {u : HO}, Same B B' → p l B u → p l B' u
def ownL (K : Fg) {α : Type} [Rep α] (i : Nat) (xs : List α) : Own := ⟨i, fun _ B u => ∃ vs, u = .lst vs ∧ AllR (xs.map (is K)) B vs, fun e ⟨vs, h1, h2⟩ => ⟨vs, h1, h2.mono e⟩⟩
def ownI (x : Addr) (C : Addr) (i : Nat) (fs : List (Str × MP)) : Own := ⟨i, fun l B u => l = x ∧ ∃ dx vs, u = .ins C dx vs ∧ vs.map Prod.fst = fs.map Prod.fst ∧ AllR (fs.map Prod.snd) B (vs.map Prod.snd), fun e ⟨h0, dx, vs, h1, h2, h3⟩ => ⟨h0, dx, vs, h1, h2, h3.mono e⟩⟩
abbrev Gm := List (Option MP)
structure Good (Γ : Gm) (o : Option Own) (σ : L2.St) (B H : Hp) : Prop where
  sub : Same B H
  len : σ.length = Γ.length
  val : ∀ (i : Nat) (P : MP), Γ[i]? = some (some P) → ∃ v, σ[i]? = some (some v) ∧ P.p B v
  own : ∀ w : Own, o = some w → ∃ (l : Addr) (u : HO), σ[w.i]? = some (some (.ref l)) ∧ B l = none ∧ H l = some u ∧ w.p l B u
/-- what stood stays, the new part of B was free in H -/
structure Stp (B H B' H' : Hp) : Prop where
  bb : Same B B'
  bh : Same B' H'
  hh : Same H H'
  fr : ∀ l o, B' l = some o → B l = none → H l = none
theorem Stp.refl {B H : Hp} (h : Same B H) : Stp B H B H := ⟨Same.refl _, h, Same.refl _, fun l o e n => by rw [n] at e; cases e⟩
theorem Stp.trans {B H B1 H1 B2 H2 : Hp} (a : Stp B H B1 H1) (b : Stp B1 H1 B2 H2) : Stp B H B2 H2 := ⟨a.bb.trans b.bb, b.bh, a.hh.trans b.hh, fun l o e n => by
  cases q : B1 l with
  | none => exact a.hh.free (b.fr l o e q)
  | some u => exact a.fr l u q n⟩
/-- a new object, laid into both -/
theorem Stp.new {B H : Hp} {p : Addr} {u : HO} (h : Same B H) (hp : H p = none) : Stp B H (upd B p u) (upd H p u) := by
  have bp : B p = none := h.free hp
  refine ⟨fun b o e => ?_, fun b o e => ?_, fun b o e => ?_, fun l o e n => ?_⟩
  · rw [upd_ne (ne_of_none e bp)]; exact e
  · by_cases q : b = p
    · subst q; rw [upd_same] at e ⊢; exact e
    · rw [upd_ne q] at e ⊢; exact h b o e
  · rw [upd_ne (ne_of_none e hp)]; exact e
  · by_cases q : l = p
    · subst q; exact hp
    · rw [upd_ne q, n] at e; cases e
theorem Good.stp {Γ : Gm} {o : Option Own} {σ : L2.St} {B H B' H' : Hp} (g : Good Γ o σ B H) (s : Stp B H B' H') : Good Γ o σ B' H' :=
  ⟨s.bh, g.len, fun i P e => let ⟨v, h1, h2⟩ := g.val i P e; ⟨v, h1, P.mono s.bb h2⟩, fun w e => by
    obtain ⟨l, u, h1, h2, h3, h4⟩ := g.own w e
    refine ⟨l, u, h1, ?_, s.hh _ _ h3, w.mono s.bb h4⟩
    cases q : B' l with
    | none => rfl
    | some z =>
      have := s.fr l z q h2
      rw [this] at h3; cases h3⟩
/-! ### expressions -/
def PX (X : Cx) (e : Expr) (Γ : Gm) (o : Option Own) (R : MP) : Prop := ∃ t, PE X e t ∧ ∀ σ B H Q, Good Γ o σ B H → (∀ v B' H', Stp B H B' H' → R.p B' v → Q v H') → t σ H Q
def PTX (X : Cx) (e : Expr) (Γ : Gm) (o : Option Own) (b : Bool) : Prop := ∃ t, PT X e t ∧ ∀ σ B H Q, Good Γ o σ B H → (∀ B' H', Stp B H B' H' → Q b H') → t σ H Q
def PWX (X : Cx) (e : Expr) (Γ : Gm) (o : Option Own) (b : Bool) : Prop := ∃ t, PW X e t ∧ ∀ σ B H Q, Good Γ o σ B H → (∀ B' H', Stp B H B' H' → Q b H') → t σ H Q
def PAX (X : Cx) (es : List Expr) (Γ : Gm) (o : Option Own) (Rs : List MP) : Prop := ∃ t, PA X es t ∧ ∀ σ B H Q, Good Γ o σ B H → (∀ vs B' H', Stp B H B' H' → AllR Rs B' vs → Q vs H') → t σ H Q
section
variable {X : Cx} {Γ : Gm} {o : Option Own} {a b c e : Expr} {es : List Expr} {P R S : MP} {Ps Rs : List MP} {i j k : Int} {pos : Pos}
theorem PX.le (h : PX X e Γ o R) (l : R.le S) : PX X e Γ o S :=
  let ⟨t, h1, h2⟩ := h
  ⟨t, h1, fun σ B H Q g k => h2 σ B H Q g fun v B' H' s r => k v B' H' s (l _ _ r)⟩
theorem PX.eq (h : PX X e Γ o R) (l : R = S) : PX X e Γ o S := l ▸ h
theorem x_var (n : Nat) {x : Str} (hg : Γ[n]? = some (some R)) (hN : X.N[n]? = some x := by rfl) (hv : Vis X.env.scope x := by first | exact Or.inl rfl | exact Or.inr (Or.inl rfl) | exact Or.inr (Or.inr rfl)) (hd : (x == ("__debug__" : Str)) = false := by decide)
    (hcd : (x == ("__classdict__" : Str)) = false := by decide) : PX X (.Name x pos) Γ o R :=
  ⟨_, pe_var hN hv hd hcd, fun σ B H Q g k => let ⟨v, h1, h2⟩ := g.val n R hg; ⟨v, h1, k v B H (.refl g.sub) h2⟩⟩
theorem x_int {n : Nat} : PX X (.Constant (.int i) n pos) Γ o (is X.K i) := ⟨_, pe_int, fun σ B H Q g k => k _ B H (.refl g.sub) rfl⟩
theorem x_bl {n : Nat} {d : Bool} : PX X (.Constant (.bool d) n pos) Γ o (is X.K d) := ⟨_, pe_bl, fun σ B H Q g k => k _ B H (.refl g.sub) rfl⟩
theorem x_str {n : Nat} {d : Str} : PX X (.Constant (.str d) n pos) Γ o (is X.K d) := ⟨_, pe_str, fun σ B H Q g k => k _ B H (.refl g.sub) rfl⟩
theorem x_non {n : Nat} : PX X (.Constant .none n pos) Γ o (is X.K Non.non) := ⟨_, pe_non, fun σ B H Q g k => k _ B H (.refl g.sub) rfl⟩
theorem x_glob {x : Str} {v : V} {u : Value} (hm : X.mg x = some u) (r : RelV v u) (hg : Gl X x := by rfl) (hd : (x == ("__debug__" : Str)) = false := by decide) : PX X (.Name x pos) Γ o (eqv v) :=
  ⟨_, pe_glob hg hm r hd, fun σ B H Q g k => k _ B H (.refl g.sub) rfl⟩
theorem x_globI {x : Str} {i : Int} (hm : ∃ t, X.mg x = some (.int i t)) (hg : Gl X x := by rfl) (hd : (x == ("__debug__" : Str)) = false := by decide) : PX X (.Name x pos) Γ o (is X.K i) := by
  obtain ⟨t, hm⟩ := hm
  exact x_glob (v := .int i) hm ⟨t, rfl⟩ hg hd
/-- a tuple of the module's -/
theorem x_globT {x : Str} {p : Addr} {vs : List V} (hm : X.mg x = some (.ref p)) (ht : SqT X.K (fun _ => none) p vs) (hr : AllR Rs (fun _ => none) vs) (hg : Gl X x := by rfl) (hd : (x == ("__debug__" : Str)) = false := by decide) : PX X (.Name x pos) Γ o (tupOf X.K Rs) :=
  ⟨_, pe_glob hg hm (v := .ref p) rfl hd, fun σ B H Q g k => k _ B H (.refl g.sub) ⟨p, vs, rfl, SqT_mono (fun _ _ e => by cases e) ht, hr.mono (fun _ _ e => by cases e)⟩⟩
theorem x_opI {op : Operator} {C : Int → Int → Prop} {f : Int → Int → Int} (ho : OpR X (binaryOp op) (rI C fun i j => .int (f i j))) (ha : PX X a Γ o (is X.K i)) (hb : PX X b Γ o (is X.K j)) (hc : C i j) : PX X (.BinOp a op b pos) Γ o (is X.K (f i j)) := by
  obtain ⟨ta, pa, ra⟩ := ha
  obtain ⟨tb, pb, rb⟩ := hb
  refine ⟨_, pe_op ho pa pb, fun σ B H Q g k => ?_⟩
  refine ra σ B H _ g fun v B1 H1 s1 e1 => rb σ B1 H1 _ (g.stp s1) fun u B2 H2 s2 e2 => ?_
  exact ⟨i, j, e1, e2, hc, k _ B2 H2 (s1.trans s2) rfl⟩
theorem x_opI0 {op : Operator} {f : Int → Int → Int} (ho : OpR X (binaryOp op) (rI0 fun i j => .int (f i j))) (ha : PX X a Γ o (is X.K i)) (hb : PX X b Γ o (is X.K j)) : PX X (.BinOp a op b pos) Γ o (is X.K (f i j)) := by
  obtain ⟨ta, pa, ra⟩ := ha
  obtain ⟨tb, pb, rb⟩ := hb
  refine ⟨_, pe_op ho pa pb, fun σ B H Q g k => ?_⟩
  refine ra σ B H _ g fun v B1 H1 s1 e1 => rb σ B1 H1 _ (g.stp s1) fun u B2 H2 s2 e2 => ?_
  exact ⟨i, j, e1, e2, k _ B2 H2 (s1.trans s2) rfl⟩
theorem x_add (ha : PX X a Γ o (is X.K i)) (hb : PX X b Γ o (is X.K j)) : PX X (.BinOp a .Add b pos) Γ o (is X.K (i + j)) := x_opI0 op_add ha hb
theorem x_sub (ha : PX X a Γ o (is X.K i)) (hb : PX X b Γ o (is X.K j)) : PX X (.BinOp a .Sub b pos) Γ o (is X.K (i - j)) := x_opI0 op_sub ha hb
theorem x_mul (ha : PX X a Γ o (is X.K i)) (hb : PX X b Γ o (is X.K j)) (h : CMulW i j) : PX X (.BinOp a .Mult b pos) Γ o (is X.K (i * j)) := x_opI op_mulW ha hb h
theorem x_muls (ha : PX X a Γ o (is X.K i)) (hb : PX X b Γ o (is X.K j)) (h : CMul i j) : PX X (.BinOp a .Mult b pos) Γ o (is X.K (i * j)) := x_opI op_mul ha hb h
theorem x_div (ha : PX X a Γ o (is X.K i)) (hb : PX X b Γ o (is X.K j)) (h : CDivW i j) : PX X (.BinOp a .FloorDiv b pos) Γ o (is X.K (i / j)) := x_opI op_fdivW ha hb h
theorem x_mod (ha : PX X a Γ o (is X.K i)) (hb : PX X b Γ o (is X.K j)) (h : 0 < j) : PX X (.BinOp a .Mod b pos) Γ o (is X.K (i % j)) := x_opI op_mod ha hb h
theorem x_pow (ha : PX X a Γ o (is X.K i)) (hb : PX X b Γ o (is X.K j)) (h : CPow i j) : PX X (.BinOp a .Pow b pos) Γ o (is X.K (i ^ j.toNat)) := x_opI op_pow ha hb h
theorem x_neg (ha : PX X a Γ o (is X.K i)) : PX X (.UnaryOp .USub a pos) Γ o (is X.K (-i)) := by
  obtain ⟨ta, pa, ra⟩ := ha
  refine ⟨_, pe_un un_neg pa, fun σ B H Q g k => ?_⟩
  exact ra σ B H _ g fun v B1 H1 s1 e1 => ⟨i, e1, k _ B1 H1 s1 rfl⟩
/-! ### tests -/
theorem t_cmp {op : CmpOp} {f : Int → Int → Bool} (ho : OpR X (compareOp op) (rI0 fun i j => .bl (f i j))) (hm : behindInMarks op b = false) (ha : PX X a Γ o (is X.K i)) (hb : PX X b Γ o (is X.K j)) : PTX X (.Compare a [op] [b] pos) Γ o (f i j) := by
  obtain ⟨ta, pa, ra⟩ := ha
  obtain ⟨tb, pb, rb⟩ := hb
  refine ⟨_, pt_cmpR ho pa pb hm, fun σ B H Q g k => ?_⟩
  refine ra σ B H _ g fun v B1 H1 s1 e1 => rb σ B1 H1 _ (g.stp s1) fun u B2 H2 s2 e2 => ?_
  exact ⟨i, j, e1, e2, _, rfl, k B2 H2 (s1.trans s2)⟩
theorem t_lt (ha : PX X a Γ o (is X.K i)) (hb : PX X b Γ o (is X.K j)) : PTX X (.Compare a [.Lt] [b] pos) Γ o (decide (i < j)) := t_cmp op_lt (nomark _) ha hb
theorem t_le (ha : PX X a Γ o (is X.K i)) (hb : PX X b Γ o (is X.K j)) : PTX X (.Compare a [.LtE] [b] pos) Γ o (decide (i ≤ j)) := t_cmp op_le (nomark _) ha hb
theorem t_gt (ha : PX X a Γ o (is X.K i)) (hb : PX X b Γ o (is X.K j)) : PTX X (.Compare a [.Gt] [b] pos) Γ o (decide (j < i)) := t_cmp op_gt (nomark _) ha hb
theorem t_ge (ha : PX X a Γ o (is X.K i)) (hb : PX X b Γ o (is X.K j)) : PTX X (.Compare a [.GtE] [b] pos) Γ o (decide (j ≤ i)) := t_cmp op_ge (nomark _) ha hb
theorem t_eqV {x y : V} (hs : scal x y = true) (ha : PX X a Γ o (eqv x)) (hb : PX X b Γ o (eqv y)) : PTX X (.Compare a [.Eq] [b] pos) Γ o (decide (x = y)) := by
  obtain ⟨ta, pa, ra⟩ := ha
  obtain ⟨tb, pb, rb⟩ := hb
  refine ⟨_, pt_cmpR op_eq pa pb (nomark _), fun σ B H Q g k => ?_⟩
  refine ra σ B H _ g fun v B1 H1 s1 e1 => rb σ B1 H1 _ (g.stp s1) fun u B2 H2 s2 e2 => ?_
  have e1 : v = x := e1
  have e2 : u = y := e2
  subst e1 e2
  exact ⟨hs, _, rfl, k B2 H2 (s1.trans s2)⟩
theorem t_neV {x y : V} (hs : scal x y = true) (ha : PX X a Γ o (eqv x)) (hb : PX X b Γ o (eqv y)) : PTX X (.Compare a [.NotEq] [b] pos) Γ o (!decide (x = y)) := by
  obtain ⟨ta, pa, ra⟩ := ha
  obtain ⟨tb, pb, rb⟩ := hb
  refine ⟨_, pt_cmpR op_ne pa pb (nomark _), fun σ B H Q g k => ?_⟩
  refine ra σ B H _ g fun v B1 H1 s1 e1 => rb σ B1 H1 _ (g.stp s1) fun u B2 H2 s2 e2 => ?_
  have e1 : v = x := e1
  have e2 : u = y := e2
  subst e1 e2
  exact ⟨hs, _, rfl, k B2 H2 (s1.trans s2)⟩
theorem decV {α : Type} {f : α → V} (hf : ∀ x y, f x = f y → x = y) {x y : α} [DecidableEq α] : decide (f x = f y) = decide (x = y) := by
  by_cases h : x = y
  · subst h; rw [decide_eq_true rfl, decide_eq_true rfl]
  · rw [decide_eq_false h, decide_eq_false fun z => h (hf _ _ z)]
theorem PTX.eq {d d' : Bool} (h : PTX X e Γ o d) (q : d = d') : PTX X e Γ o d' := q ▸ h
theorem t_eq (ha : PX X a Γ o (is X.K i)) (hb : PX X b Γ o (is X.K j)) : PTX X (.Compare a [.Eq] [b] pos) Γ o (decide (i = j)) := (t_eqV (x := .int i) (y := .int j) rfl ha hb).eq (decV fun _ _ h => V.int.inj h)
theorem t_ne (ha : PX X a Γ o (is X.K i)) (hb : PX X b Γ o (is X.K j)) : PTX X (.Compare a [.NotEq] [b] pos) Γ o (!decide (i = j)) := (t_neV (x := .int i) (y := .int j) rfl ha hb).eq (congrArg (!·) (decV fun _ _ h => V.int.inj h))
theorem t_eqS {x y : Str} (ha : PX X a Γ o (is X.K x)) (hb : PX X b Γ o (is X.K y)) : PTX X (.Compare a [.Eq] [b] pos) Γ o (decide (x = y)) := (t_eqV (x := .str x) (y := .str y) rfl ha hb).eq (decV fun _ _ h => V.str.inj h)
theorem t_neS {x y : Str} (ha : PX X a Γ o (is X.K x)) (hb : PX X b Γ o (is X.K y)) : PTX X (.Compare a [.NotEq] [b] pos) Γ o (!decide (x = y)) := (t_neV (x := .str x) (y := .str y) rfl ha hb).eq (congrArg (!·) (decV fun _ _ h => V.str.inj h))
theorem t_ltS {x y : Str} (ha : PX X a Γ o (is X.K x)) (hb : PX X b Γ o (is X.K y)) : PTX X (.Compare a [.Lt] [b] pos) Γ o (decide (x.cps.toList < y.cps.toList)) := by
  obtain ⟨ta, pa, ra⟩ := ha
  obtain ⟨tb, pb, rb⟩ := hb
  refine ⟨_, pt_cmpR op_lt_str pa pb (nomark _), fun σ B H Q g k => ?_⟩
  refine ra σ B H _ g fun v B1 H1 s1 e1 => rb σ B1 H1 _ (g.stp s1) fun u B2 H2 s2 e2 => ?_
  exact ⟨x, y, e1, e2, _, rfl, k B2 H2 (s1.trans s2)⟩
/-- a bool's value -/
theorem t_val {d : Bool} (h : PX X e Γ o (is X.K d)) (he : ∀ whole, isTrue e X.env whole = (do let v ← whole; standAt e.pos; holding [v] (truthy v)) := by intro _; rfl) : PTX X e Γ o d := by
  obtain ⟨t, p, r⟩ := h
  exact ⟨_, pt_val p he, fun σ B H Q g k => r σ B H _ g fun v B1 H1 s1 e1 => ⟨d, e1, k B1 H1 s1⟩⟩
/-- is None: of a thing whose sort is known -/
theorem t_isN {d : Bool} (h : PX X a Γ o R) (hd : ∀ B v, R.p B v → decide (v = .non) = d) {n : Nat} {pos' : Pos} : PTX X (.Compare a [.Is] [.Constant .none n pos'] pos) Γ o d := by
  obtain ⟨t, p, r⟩ := h
  refine ⟨_, pt_cmp (pc_isN p), fun σ B H Q g k => r σ B H _ g fun v B1 H1 s1 e1 => ⟨_, rfl, ?_⟩⟩
  rw [hd B1 v e1]
  exact k B1 H1 s1
theorem t_notN {d : Bool} (h : PX X a Γ o R) (hd : ∀ B v, R.p B v → decide (v = .non) = d) {n : Nat} {pos' : Pos} : PTX X (.Compare a [.IsNot] [.Constant .none n pos'] pos) Γ o (!d) := by
  obtain ⟨t, p, r⟩ := h
  refine ⟨_, pt_cmp (pc_notN p), fun σ B H Q g k => r σ B H _ g fun v B1 H1 s1 e1 => ⟨_, rfl, ?_⟩⟩
  rw [hd B1 v e1]
  exact k B1 H1 s1
theorem t_not {d : Bool} (h : PTX X e Γ o d) : PTX X (.UnaryOp .Not e pos) Γ o (!d) := by
  obtain ⟨t, p, r⟩ := h
  exact ⟨_, pt_not p, fun σ B H Q g k => r σ B H _ g fun B1 H1 s1 => k B1 H1 s1⟩
theorem w_and1 {d : Bool} (h : PTX X a Γ o d) : PWX X (.BoolOp .And [a] pos) Γ o d := by
  obtain ⟨t, p, r⟩ := h
  exact ⟨_, pw_and1 p, r⟩
theorem w_or1 {d : Bool} (h : PTX X a Γ o d) : PWX X (.BoolOp .Or [a] pos) Γ o d := by
  obtain ⟨t, p, r⟩ := h
  exact ⟨_, pw_or1 p, r⟩
theorem pw_dead {t : Expr} : PW X t (fun _ _ _ => False) := ⟨fun _ _ _ _ _ _ _ h => h.elim⟩
theorem w_and {d d' : Bool} (h : PTX X a Γ o d) (h' : d = true → PWX X (.BoolOp .And (b :: es) pos) Γ o d') : PWX X (.BoolOp .And (a :: b :: es) pos) Γ o (d && d') := by
  obtain ⟨t, p, r⟩ := h
  cases d with
  | true =>
    obtain ⟨t', p', r'⟩ := h' rfl
    refine ⟨_, pw_and p p', fun σ B H Q g k => r σ B H _ g fun B1 H1 s1 => ?_⟩
    exact r' σ B1 H1 Q (g.stp s1) fun B2 H2 s2 => k B2 H2 (s1.trans s2)
  | false => exact ⟨_, pw_and p pw_dead, fun σ B H Q g k => r σ B H _ g fun B1 H1 s1 => k B1 H1 s1⟩
theorem w_or {d d' : Bool} (h : PTX X a Γ o d) (h' : d = false → PWX X (.BoolOp .Or (b :: es) pos) Γ o d') : PWX X (.BoolOp .Or (a :: b :: es) pos) Γ o (d || d') := by
  obtain ⟨t, p, r⟩ := h
  cases d with
  | false =>
    obtain ⟨t', p', r'⟩ := h' rfl
    refine ⟨_, pw_or p p', fun σ B H Q g k => r σ B H _ g fun B1 H1 s1 => ?_⟩
    exact r' σ B1 H1 Q (g.stp s1) fun B2 H2 s2 => k B2 H2 (s1.trans s2)
  | true => exact ⟨_, pw_or p pw_dead, fun σ B H Q g k => r σ B H _ g fun B1 H1 s1 => k B1 H1 s1⟩
theorem t_w {d : Bool} (h : PWX X e Γ o d) : PTX X e Γ o d := by
  obtain ⟨t, p, r⟩ := h
  exact ⟨_, p.pt, r⟩
/-! ### the same as values -/
theorem x_cmp {op : CmpOp} {f : Int → Int → Bool} (ho : OpR X (compareOp op) (rI0 fun i j => .bl (f i j))) (hm : behindInMarks op b = false) (ha : PX X a Γ o (is X.K i)) (hb : PX X b Γ o (is X.K j)) : PX X (.Compare a [op] [b] pos) Γ o (is X.K (f i j)) := by
  obtain ⟨ta, pa, ra⟩ := ha
  obtain ⟨tb, pb, rb⟩ := hb
  refine ⟨_, pe_cmpR ho pa pb hm, fun σ B H Q g k => ?_⟩
  refine ra σ B H _ g fun v B1 H1 s1 e1 => rb σ B1 H1 _ (g.stp s1) fun u B2 H2 s2 e2 => ?_
  exact ⟨i, j, e1, e2, k _ B2 H2 (s1.trans s2) rfl⟩
theorem x_le (ha : PX X a Γ o (is X.K i)) (hb : PX X b Γ o (is X.K j)) : PX X (.Compare a [.LtE] [b] pos) Γ o (is X.K (decide (i ≤ j))) := x_cmp op_le (nomark _) ha hb
theorem x_lt (ha : PX X a Γ o (is X.K i)) (hb : PX X b Γ o (is X.K j)) : PX X (.Compare a [.Lt] [b] pos) Γ o (is X.K (decide (i < j))) := x_cmp op_lt (nomark _) ha hb
theorem x_eq (ha : PX X a Γ o (is X.K i)) (hb : PX X b Γ o (is X.K j)) : PX X (.Compare a [.Eq] [b] pos) Γ o (is X.K (decide (i = j))) := by
  obtain ⟨ta, pa, ra⟩ := ha
  obtain ⟨tb, pb, rb⟩ := hb
  refine ⟨_, pe_cmpR op_eq pa pb (nomark _), fun σ B H Q g k => ?_⟩
  refine ra σ B H _ g fun v B1 H1 s1 e1 => rb σ B1 H1 _ (g.stp s1) fun u B2 H2 s2 e2 => ?_
  have e1 : v = .int i := e1
  have e2 : u = .int j := e2
  subst e1 e2
  refine ⟨rfl, k _ B2 H2 (s1.trans s2) ?_⟩
  show V.bl _ = V.bl _
  rw [decV (f := V.int) fun _ _ h => V.int.inj h]
theorem x_ne (ha : PX X a Γ o (is X.K i)) (hb : PX X b Γ o (is X.K j)) : PX X (.Compare a [.NotEq] [b] pos) Γ o (is X.K (!decide (i = j))) := by
  obtain ⟨ta, pa, ra⟩ := ha
  obtain ⟨tb, pb, rb⟩ := hb
  refine ⟨_, pe_cmpR op_ne pa pb (nomark _), fun σ B H Q g k => ?_⟩
  refine ra σ B H _ g fun v B1 H1 s1 e1 => rb σ B1 H1 _ (g.stp s1) fun u B2 H2 s2 e2 => ?_
  have e1 : v = .int i := e1
  have e2 : u = .int j := e2
  subst e1 e2
  refine ⟨rfl, k _ B2 H2 (s1.trans s2) ?_⟩
  show V.bl _ = V.bl _
  rw [decV (f := V.int) fun _ _ h => V.int.inj h]
theorem x_one {op : BoolOp} (h : PX X a Γ o R) : PX X (.BoolOp op [a] pos) Γ o R := by
  obtain ⟨t, p, r⟩ := h
  exact ⟨_, pe_one p, r⟩
theorem pe_dead {t : Expr} : PE X t (fun _ _ _ => False) := ⟨fun _ _ _ _ _ _ h => h.elim⟩
theorem x_and {d d' : Bool} (h : PX X a Γ o (is X.K d)) (h' : d = true → PX X (.BoolOp .And (b :: es) pos) Γ o (is X.K d')) : PX X (.BoolOp .And (a :: b :: es) pos) Γ o (is X.K (d && d')) := by
  obtain ⟨t, p, r⟩ := h
  cases d with
  | true =>
    obtain ⟨t', p', r'⟩ := h' rfl
    refine ⟨_, pe_and p p', fun σ B H Q g k => r σ B H _ g fun v B1 H1 s1 e1 => ⟨true, e1, ?_⟩⟩
    refine iteT ?_
    exact r' σ B1 H1 Q (g.stp s1) fun v B2 H2 s2 e2 => k v B2 H2 (s1.trans s2) e2
  | false => exact ⟨_, pe_and p pe_dead, fun σ B H Q g k => r σ B H _ g fun v B1 H1 s1 e1 => ⟨false, e1, iteF (k _ B1 H1 s1 rfl)⟩⟩
theorem x_or {d d' : Bool} (h : PX X a Γ o (is X.K d)) (h' : d = false → PX X (.BoolOp .Or (b :: es) pos) Γ o (is X.K d')) : PX X (.BoolOp .Or (a :: b :: es) pos) Γ o (is X.K (d || d')) := by
  obtain ⟨t, p, r⟩ := h
  cases d with
  | false =>
    obtain ⟨t', p', r'⟩ := h' rfl
    refine ⟨_, pe_or p p', fun σ B H Q g k => r σ B H _ g fun v B1 H1 s1 e1 => ⟨false, e1, ?_⟩⟩
    refine iteF ?_
    exact r' σ B1 H1 Q (g.stp s1) fun v B2 H2 s2 e2 => k v B2 H2 (s1.trans s2) e2
  | true => exact ⟨_, pe_or p pe_dead, fun σ B H Q g k => r σ B H _ g fun v B1 H1 s1 e1 => ⟨true, e1, iteT (k _ B1 H1 s1 rfl)⟩⟩
theorem x_chain {op op' : CmpOp} {f f' : Int → Int → Bool} (ho : OpR X (compareOp op) (rI0 fun i j => .bl (f i j))) (ho' : OpR X (compareOp op') (rI0 fun i j => .bl (f' i j))) (ha : PX X a Γ o (is X.K i)) (hb : PX X b Γ o (is X.K j)) (hc : PX X c Γ o (is X.K k))
    (hm : lastMarks [op, op'] [b, c] = false := by with_unfolding_all rfl) : PX X (.Compare a [op, op'] [b, c] pos) Γ o (is X.K (f i j && f' j k)) := by
  obtain ⟨ta, pa, ra⟩ := ha
  obtain ⟨tb, pb, rb⟩ := hb
  obtain ⟨tc, pc, rc⟩ := hc
  refine ⟨_, pe_chain ho ho' pa pb pc hm, fun σ B H Q g kk => ?_⟩
  refine ra σ B H _ g fun v B1 H1 s1 e1 => rb σ B1 H1 _ (g.stp s1) fun u B2 H2 s2 e2 => ?_
  refine ⟨i, j, e1, e2, _, rfl, ?_⟩
  cases q : f i j with
  | true =>
    refine iteT ?_
    exact rc σ B2 H2 _ ((g.stp s1).stp s2) fun w B3 H3 s3 e3 => ⟨j, k, e2, e3, kk _ B3 H3 ((s1.trans s2).trans s3) (by rw [q]; rfl)⟩
  | false => exact iteF (kk _ B2 H2 (s1.trans s2) (by rw [q]; rfl))
theorem t_chain {op op' : CmpOp} {f f' : Int → Int → Bool} (ho : OpR X (compareOp op) (rI0 fun i j => .bl (f i j))) (ho' : OpR X (compareOp op') (rI0 fun i j => .bl (f' i j))) (ha : PX X a Γ o (is X.K i)) (hb : PX X b Γ o (is X.K j)) (hc : PX X c Γ o (is X.K k))
    (hm : lastMarks [op, op'] [b, c] = false := by with_unfolding_all rfl) : PTX X (.Compare a [op, op'] [b, c] pos) Γ o (f i j && f' j k) := by
  obtain ⟨ta, pa, ra⟩ := ha
  obtain ⟨tb, pb, rb⟩ := hb
  obtain ⟨tc, pc, rc⟩ := hc
  refine ⟨_, pt_chain ho ho' pa pb pc hm, fun σ B H Q g kk => ?_⟩
  refine ra σ B H _ g fun v B1 H1 s1 e1 => rb σ B1 H1 _ (g.stp s1) fun u B2 H2 s2 e2 => ?_
  refine ⟨i, j, e1, e2, _, rfl, ?_⟩
  cases q : f i j with
  | true =>
    refine iteT ?_
    exact rc σ B2 H2 _ ((g.stp s1).stp s2) fun w B3 H3 s3 e3 => ⟨j, k, e2, e3, _, rfl, by rw [q] at kk; exact kk B3 H3 ((s1.trans s2).trans s3)⟩
  | false => exact iteF ⟨_, rfl, by rw [q] at kk; exact kk B2 H2 (s1.trans s2)⟩
theorem x_ifT {d : Bool} (h : PTX X c Γ o d) (hd : d = true) (ha : PX X a Γ o R) : PX X (.IfExp c a b pos) Γ o R := by
  obtain ⟨t, p, r⟩ := h
  obtain ⟨ta, pa, ra⟩ := ha
  subst hd
  exact ⟨_, pe_ifExp p pa pe_dead, fun σ B H Q g k => r σ B H _ g fun B1 H1 s1 => iteT (ra σ B1 H1 Q (g.stp s1) fun v B2 H2 s2 => k v B2 H2 (s1.trans s2))⟩
theorem x_ifF {d : Bool} (h : PTX X c Γ o d) (hd : d = false) (hb : PX X b Γ o R) : PX X (.IfExp c a b pos) Γ o R := by
  obtain ⟨t, p, r⟩ := h
  obtain ⟨ta, pa, ra⟩ := hb
  subst hd
  exact ⟨_, pe_ifExp p pe_dead pa, fun σ B H Q g k => r σ B H _ g fun B1 H1 s1 => iteF (ra σ B1 H1 Q (g.stp s1) fun v B2 H2 s2 => k v B2 H2 (s1.trans s2))⟩
theorem x_if {d : Bool} {α : Type} [Rep α] {x y : α} (h : PTX X c Γ o d) (ha : d = true → PX X a Γ o (is X.K x)) (hb : d = false → PX X b Γ o (is X.K y)) : PX X (.IfExp c a b pos) Γ o (is X.K (if d = true then x else y)) := by
  cases d with
  | true => exact x_ifT h rfl (ha rfl)
  | false => exact x_ifF h rfl (hb rfl)
/-! ### argument lists, tuples, lists -/
theorem xs_nil : PAX X [] Γ o [] := ⟨_, pa_nil, fun σ B H Q g k => k [] B H (.refl g.sub) trivial⟩
theorem xs_cons (h : PX X e Γ o R) (hr : PAX X es Γ o Rs) (hs : starEach (e :: es) X.env = (false, eval e X.env) :: starEach es X.env := by rfl) : PAX X (e :: es) Γ o (R :: Rs) := by
  obtain ⟨t, p, r⟩ := h
  obtain ⟨t', p', r'⟩ := hr
  refine ⟨_, pa_cons p p' hs, fun σ B H Q g k => r σ B H _ g fun v B1 H1 s1 e1 => r' σ B1 H1 _ (g.stp s1) fun vs B2 H2 s2 e2 => ?_⟩
  exact k _ B2 H2 (s1.trans s2) ⟨R.mono s2.bb e1, e2⟩
theorem small_le {n : Nat} (h : n ≤ 1000) : n ≤ sizeLine := Nat.le_of_lt (small1000 h)
theorem x_tup {x1} (h : PAX X es Γ o Rs) (hl : Rs.length ≤ 1000 := by exact Nat.le_of_ble_eq_true rfl) : PX X (.Tuple es x1 pos) Γ o (tupOf X.K Rs) := by
  obtain ⟨t, p, r⟩ := h
  refine ⟨_, pe_tup p, fun σ B H Q g k => r σ B H _ g fun vs B1 H1 s1 e1 => ⟨by rw [e1.length]; exact small_le hl, fun q hq => ?_⟩⟩
  have s2 := Stp.new (u := .tup vs) s1.bh hq
  exact k _ _ _ (s1.trans s2) ⟨q, vs, rfl, SqT.of upd_same, e1.mono s2.bb⟩
theorem x_lst (h : PAX X es Γ o Rs) (hl : Rs.length ≤ 1000 := by exact Nat.le_of_ble_eq_true rfl) : PX X (.List es pos) Γ o (lstOf Rs) := by
  obtain ⟨t, p, r⟩ := h
  refine ⟨_, pe_lst p, fun σ B H Q g k => r σ B H _ g fun vs B1 H1 s1 e1 => ⟨by rw [e1.length]; exact small_le hl, fun q hq => ?_⟩⟩
  have s2 := Stp.new (u := .lst vs) s1.bh hq
  exact k _ _ _ (s1.trans s2) ⟨q, vs, rfl, upd_same, e1.mono s2.bb⟩
section
variable {α β γ δ ε ζ η θ ι : Type} [Rep α] [Rep β] [Rep γ] [Rep δ] [Rep ε] [Rep ζ] [Rep η] [Rep θ] [Rep ι] {e1 e2 e3 e4 e5 e6 e7 e8 e9 : Expr} {x1 : α} {x2 : β} {x3 : γ} {x4 : δ} {x5 : ε} {x6 : ζ} {x7 : η} {x8 : θ} {x9 : ι}
theorem x_t2 {m} (h : PAX X [e1, e2] Γ o [is X.K x1, is X.K x2]) : PX X (.Tuple [e1, e2] m pos) Γ o (is X.K (T2.mk x1 x2)) := x_tup h
theorem x_t3 {m} (h : PAX X [e1, e2, e3] Γ o [is X.K x1, is X.K x2, is X.K x3]) : PX X (.Tuple [e1, e2, e3] m pos) Γ o (is X.K (T3.mk x1 x2 x3)) := x_tup h
theorem x_t4 {m} (h : PAX X [e1, e2, e3, e4] Γ o [is X.K x1, is X.K x2, is X.K x3, is X.K x4]) : PX X (.Tuple [e1, e2, e3, e4] m pos) Γ o (is X.K (T4.mk x1 x2 x3 x4)) := x_tup h
theorem x_t5 {m} (h : PAX X [e1, e2, e3, e4, e5] Γ o [is X.K x1, is X.K x2, is X.K x3, is X.K x4, is X.K x5]) : PX X (.Tuple [e1, e2, e3, e4, e5] m pos) Γ o (is X.K (T5.mk x1 x2 x3 x4 x5)) := x_tup h
theorem x_t7 {m} (h : PAX X [e1, e2, e3, e4, e5, e6, e7] Γ o [is X.K x1, is X.K x2, is X.K x3, is X.K x4, is X.K x5, is X.K x6, is X.K x7]) : PX X (.Tuple [e1, e2, e3, e4, e5, e6, e7] m pos) Γ o (is X.K (T7.mk x1 x2 x3 x4 x5 x6 x7)) := x_tup h
theorem x_t9 {m} (h : PAX X [e1, e2, e3, e4, e5, e6, e7, e8, e9] Γ o [is X.K x1, is X.K x2, is X.K x3, is X.K x4, is X.K x5, is X.K x6, is X.K x7, is X.K x8, is X.K x9]) : PX X (.Tuple [e1, e2, e3, e4, e5, e6, e7, e8, e9] m pos) Γ o (is X.K (T9.mk x1 x2 x3 x4 x5 x6 x7 x8 x9)) := x_tup h
end
/-- a place of a tuple -/
theorem x_ixP {n : Nat} {z : Int} {t : MP} (h : PX X a Γ o (tupOf X.K Ps)) (hi : PX X b Γ o (is X.K z)) (hz : z = (n : Int)) (hP : Ps[n]? = some R) (hs : PlainIx b := by intro _ _; rfl) : PX X (.Subscript a b pos) Γ o R := by
  obtain ⟨ta, pa, ra⟩ := h
  obtain ⟨tb, pb, rb⟩ := hi
  refine ⟨_, pe_ix ix_tup pa pb hs, fun σ B H Q g k => ?_⟩
  refine ra σ B H _ g fun v B1 H1 s1 ⟨p, vs, h1, h2, h3⟩ => rb σ B1 H1 _ (g.stp s1) fun u B2 H2 s2 e2 => ?_
  obtain ⟨w, hw, rw'⟩ := h3.get hP
  exact ⟨p, vs, z, w, h1, e2, SqT_mono (s2.bb.trans s2.bh) h2, by rw [hz]; exact atI_nat hw, k w B2 H2 (s1.trans s2) (R.mono s2.bb rw')⟩
theorem x_ixL {n : Nat} {z : Int} (h : PX X a Γ o (lstOf Ps)) (hi : PX X b Γ o (is X.K z)) (hz : ixN Ps.length z = some n) (hP : Ps[n]? = some R) (hs : PlainIx b := by intro _ _; rfl) : PX X (.Subscript a b pos) Γ o R := by
  obtain ⟨ta, pa, ra⟩ := h
  obtain ⟨tb, pb, rb⟩ := hi
  refine ⟨_, pe_ix ix_list pa pb hs, fun σ B H Q g k => ?_⟩
  refine ra σ B H _ g fun v B1 H1 s1 ⟨p, vs, h1, h2, h3⟩ => rb σ B1 H1 _ (g.stp s1) fun u B2 H2 s2 e2 => ?_
  obtain ⟨w, hw, rw'⟩ := h3.get hP
  have hx : atI vs z = some w := by
    unfold atI
    rw [h3.length, hz]
    exact hw
  exact ⟨p, vs, z, w, h1, e2, SqL.of ((s2.bb.trans s2.bh) _ _ h2), hx, k w B2 H2 (s1.trans s2) (R.mono s2.bb rw')⟩
theorem x_ixR {n : Nat} {z : Int} (h : PX X a Γ o (rdlOf X.K Ps)) (hi : PX X b Γ o (is X.K z)) (hz : ixN Ps.length z = some n) (hP : Ps[n]? = some R) (hs : PlainIx b := by intro _ _; rfl) : PX X (.Subscript a b pos) Γ o R := by
  obtain ⟨ta, pa, ra⟩ := h
  obtain ⟨tb, pb, rb⟩ := hi
  refine ⟨_, pe_ix ix_list pa pb hs, fun σ B H Q g k => ?_⟩
  refine ra σ B H _ g fun v B1 H1 s1 ⟨p, vs, h1, h2, h3⟩ => rb σ B1 H1 _ (g.stp s1) fun u B2 H2 s2 e2 => ?_
  obtain ⟨w, hw, rw'⟩ := h3.get hP
  have hx : atI vs z = some w := by
    unfold atI
    rw [h3.length, hz]
    exact hw
  exact ⟨p, vs, z, w, h1, e2, (s2.bb.trans s2.bh).seq h2, hx, k w B2 H2 (s1.trans s2) (R.mono s2.bb rw')⟩
/-- a field -/
theorem x_fld {C : Addr} {fs : List (Str × MP)} {f : Str} (h : PX X e Γ o (insOf C fs)) (c : Cls X.K C) (n : NoAttr X.K C f) (hf : fs.lookup f = some R) (hb : attributeBase e f X.env (eval e X.env) = eval e X.env := by rfl) : PX X (.Attribute e f pos) Γ o R := by
  obtain ⟨t, p, r⟩ := h
  refine ⟨_, pe_fld p hb, fun σ B H Q g k => r σ B H _ g fun v B1 H1 s1 ⟨q, dx, vs, h1, h2, h3, h4⟩ => ?_⟩
  obtain ⟨u, e1, e2⟩ := fld_of h3 h4 hf
  exact ⟨q, C, dx, vs, u, h1, s1.bh _ _ h2, c, n, e1, k u B1 H1 s1 e2⟩
end
end L3
set_option maxHeartbeats 4000000
/-! The logic's statements, loops, comprehensions. -/
namespace L3
open PySem PySem.Spec PyProof.Rows L2
/-! ### assertions over a base -/
structure Bs (B0 H0 B1 H1 : Hp) : Prop where
  bb : Same B0 B1
  hh : Same H0 H1
  fr : ∀ l o, B1 l = some o → B0 l = none → H0 l = none
theorem Bs.trans {B0 H0 B1 H1 B2 H2 : Hp} (a : Bs B0 H0 B1 H1) (b : Bs B1 H1 B2 H2) : Bs B0 H0 B2 H2 := ⟨a.bb.trans b.bb, a.hh.trans b.hh, fun l o e n => by
  cases q : B1 l with
  | none => exact a.hh.free (b.fr l o e q)
  | some u => exact a.fr l u q n⟩
theorem Bs.stp {B0 H0 B1 H1 B2 H2 : Hp} (a : Bs B0 H0 B1 H1) (b : Stp B1 H1 B2 H2) : Bs B0 H0 B2 H2 := a.trans ⟨b.bb, b.hh, b.fr⟩
theorem Bs.refl (B H : Hp) : Bs B H B H := ⟨Same.refl _, Same.refl _, fun l o e n => by rw [n] at e; cases e⟩
theorem Bs.toStp {B0 H0 B1 H1 : Hp} (a : Bs B0 H0 B1 H1) (s : Same B1 H1) : Stp B0 H0 B1 H1 := ⟨a.bb, s, a.hh, a.fr⟩
structure Asn where
  p : Hp → Hp → L2.St → Hp → Prop
  base : ∀ {B0 H0 B1 H1 : Hp} {σ : L2.St} {H : Hp}, Bs B0 H0 B1 H1 → p B1 H1 σ H → p B0 H0 σ H
def as (Γ : Gm) (o : Option Own) : Asn := ⟨fun B0 H0 σ H => ∃ B, Bs B0 H0 B H ∧ Good Γ o σ B H ∧ ∀ w l, o = some w → σ[w.i]? = some (some (.ref l)) → H0 l = none,
  fun b ⟨B, h1, h2, h3⟩ => ⟨B, b.trans h1, h2, fun w l e q => b.hh.free (h3 w l e q)⟩⟩
def exA {ι : Type} (φ : ι → Prop) (a : ι → Asn) : Asn := ⟨fun B0 H0 σ H => ∃ x, φ x ∧ (a x).p B0 H0 σ H, fun b ⟨x, h1, h2⟩ => ⟨x, h1, (a x).base b h2⟩⟩
def noA : Asn := ⟨fun _ _ _ _ => False, fun _ h => h⟩
def Asn.le (A A' : Asn) : Prop := ∀ B0 H0 σ H, A.p B0 H0 σ H → A'.p B0 H0 σ H
theorem Asn.le_refl (A : Asn) : A.le A := fun _ _ _ _ h => h
theorem noA_le {A : Asn} : noA.le A := fun _ _ _ _ h => h.elim
theorem exA_in {ι : Type} {φ : ι → Prop} {a : ι → Asn} {A : Asn} (x : ι) (hx : φ x) (h : A.le (a x)) : A.le (exA φ a) := fun B0 H0 σ H q => ⟨x, hx, h _ _ _ _ q⟩
theorem exA_le {ι : Type} {φ : ι → Prop} {a : ι → Asn} {A : Asn} (h : ∀ x, φ x → (a x).le A) : (exA φ a).le A := fun B0 H0 σ H ⟨x, h1, h2⟩ => h x h1 _ _ _ _ h2
/-- slots forgotten, predicates weakened -/
inductive GLe : Gm → Gm → Prop where
  | nil : GLe [] []
  | keep {a : Option MP} {Γ Γ' : Gm} : GLe Γ Γ' → GLe (a :: Γ) (a :: Γ')
  | drop {a : Option MP} {Γ Γ' : Gm} : GLe Γ Γ' → GLe (a :: Γ) (none :: Γ')
  | weak {P Q : MP} {Γ Γ' : Gm} : P.le Q → GLe Γ Γ' → GLe (some P :: Γ) (some Q :: Γ')
theorem GLe.refl : ∀ Γ : Gm, GLe Γ Γ
  | [] => .nil
  | _ :: Γ => .keep (GLe.refl Γ)
theorem GLe.length {Γ Γ' : Gm} (h : GLe Γ Γ') : Γ.length = Γ'.length := by
  induction h with
  | nil => rfl
  | keep _ ih => exact congrArg Nat.succ ih
  | drop _ ih => exact congrArg Nat.succ ih
  | weak _ _ ih => exact congrArg Nat.succ ih
theorem GLe.get {Γ Γ' : Gm} (h : GLe Γ Γ') : ∀ (i : Nat) (Q : MP), Γ'[i]? = some (some Q) → ∃ P : MP, Γ[i]? = some (some P) ∧ P.le Q := by
  induction h with
  | nil => intro i Q e; simp at e
  | keep _ ih =>
    intro i Q e
    cases i with
    | zero => exact ⟨Q, by simpa using e, Q.le_refl⟩
    | succ i => simpa using ih i Q (by simpa using e)
  | drop _ ih =>
    intro i Q e
    cases i with
    | zero => simp at e
    | succ i => simpa using ih i Q (by simpa using e)
  | weak l _ ih =>
    intro i Q e
    cases i with
    | zero =>
      have e2 := Option.some.inj (Option.some.inj (by simpa using e : some (some _) = some (some Q)))
      subst e2
      exact ⟨_, rfl, l⟩
    | succ i => simpa using ih i Q (by simpa using e)
theorem Good.le {Γ Γ' : Gm} {o : Option Own} {σ : L2.St} {B H : Hp} (l : GLe Γ Γ') (g : Good Γ o σ B H) : Good Γ' o σ B H :=
  ⟨g.sub, g.len.trans l.length, fun i Q e => let ⟨P, e1, l1⟩ := l.get i Q e; let ⟨v, h1, h2⟩ := g.val i P e1; ⟨v, h1, l1 _ _ h2⟩, g.own⟩
theorem as_le {Γ Γ' : Gm} {o : Option Own} (l : GLe Γ Γ') : (as Γ o).le (as Γ' o) := fun B0 H0 σ H ⟨B, h1, h2, h3⟩ => ⟨B, h1, h2.le l, h3⟩
theorem as_drop {Γ : Gm} {o : Option Own} : (as Γ o).le (as Γ none) := fun B0 H0 σ H ⟨B, h1, h2, h3⟩ => ⟨B, h1, ⟨h2.sub, h2.len, h2.val, fun _ e => by cases e⟩, fun _ _ e => by cases e⟩
/-- the own list becomes data -/
theorem as_freeze {K : Fg} {α : Type} [Rep α] {Γ : Gm} {i : Nat} {xs : List α} (hi : i < Γ.length) : (as Γ (some (ownL K i xs))).le (as (Γ.set i (some (is K xs))) none) := fun B0 H0 σ H ⟨B, h1, h2, h3⟩ => by
  obtain ⟨l, u, e1, e2, e3, vs, rfl, e4⟩ := h2.own _ rfl
  have hl : H0 l = none := h3 _ l rfl e1
  have sb : Same B (upd B l (.lst vs)) := fun b o e => by rw [upd_ne (ne_of_none e e2)]; exact e
  refine ⟨upd B l (.lst vs), ⟨h1.bb.trans sb, h1.hh, fun b o e n => ?_⟩, ⟨fun b o e => ?_, by rw [List.length_set]; exact h2.len, fun j P e => ?_, fun _ e => by cases e⟩, fun _ _ e => by cases e⟩
  · by_cases q : b = l
    · subst q; exact hl
    · rw [upd_ne q] at e; exact h1.fr b o e n
  · by_cases q : b = l
    · subst q; rw [upd_same] at e; cases e; exact e3
    · rw [upd_ne q] at e; exact h2.sub b o e
  · by_cases q : i = j
    · subst q
      rw [List.getElem?_set_self hi] at e
      cases e
      exact ⟨_, e1, l, vs, rfl, upd_same, e4.mono sb⟩
    · rw [List.getElem?_set_ne q] at e
      obtain ⟨v, q1, q2⟩ := h2.val j P e
      exact ⟨v, q1, P.mono sb q2⟩
/-! ### statements -/
abbrev Ret := V → Asn
def retV (P : MP) : Ret := fun v => ⟨fun B0 H0 σ H => ∃ B, Bs B0 H0 B H ∧ Same B H ∧ P.p B v, fun b ⟨B, h1, h2, h3⟩ => ⟨B, b.trans h1, h2, h3⟩⟩
def retO (w : Own) (P : MP) : Ret := fun v => ⟨fun B0 H0 σ H => ∃ Γ B, Bs B0 H0 B H ∧ Good Γ (some w) σ B H ∧ (∀ l, σ[w.i]? = some (some (.ref l)) → H0 l = none) ∧ P.p B v,
  fun b ⟨Γ, B, h1, h2, h3, h4⟩ => ⟨Γ, B, b.trans h1, h2, fun l q => b.hh.free (h3 l q), h4⟩⟩
structure DOk (B0 H0 : Hp) (D : Ends) (N Bk Ct : Asn) (R : Ret) : Prop where
  nx : ∀ σ H, N.p B0 H0 σ H → D.nx σ H
  bk : ∀ σ H, Bk.p B0 H0 σ H → D.bk σ H
  ct : ∀ σ H, Ct.p B0 H0 σ H → D.ct σ H
  rt : ∀ v σ H, (R v).p B0 H0 σ H → D.rt v H
def SX (X : Cx) (st : Stmt) (A N Bk Ct : Asn) (R : Ret) : Prop := ∃ t, PS X st t ∧ ∀ B0 H0 σ H D, A.p B0 H0 σ H → DOk B0 H0 D N Bk Ct R → t D σ H
def SXs (X : Cx) (sts : List Stmt) (A N Bk Ct : Asn) (R : Ret) : Prop := ∃ t, PSs X sts t ∧ ∀ B0 H0 σ H D, A.p B0 H0 σ H → DOk B0 H0 D N Bk Ct R → t D σ H
/-! the weakest: what a piece of text can be shown to do -/
def wX (X : Cx) (e : Expr) : TE := fun σ H Q => ∃ Γ o R B, PX X e Γ o R ∧ Good Γ o σ B H ∧ ∀ v B' H', Stp B H B' H' → R.p B' v → Q v H'
theorem pe_w {X : Cx} {e : Expr} : PE X e (wX X e) := ⟨fun pins s σ H Q I ⟨Γ, o, R, B, ⟨t, p, f⟩, g, k⟩ => p.run pins s σ H Q I (f σ B H Q g k)⟩
def wSs (X : Cx) (sts : List Stmt) : TS := fun D σ H => ∃ A N Bk Ct R B0 H0, SXs X sts A N Bk Ct R ∧ A.p B0 H0 σ H ∧ DOk B0 H0 D N Bk Ct R
theorem pss_w {X : Cx} {sts : List Stmt} : PSs X sts (wSs X sts) := ⟨fun pins s σ H D I ⟨A, N, Bk, Ct, R, B0, H0, ⟨t, p, f⟩, a, d⟩ => p.run pins s σ H D I (f B0 H0 σ H D a d)⟩
section
variable {X : Cx} {Γ Γ' : Gm} {o : Option Own} {st : Stmt} {sts : List Stmt} {A A' N N' M Bk Ct : Asn} {R : Ret} {P S : MP} {e c : Expr} {pos pos' : Pos}
theorem sx_nil : SXs X [] A A Bk Ct R := ⟨_, pss_nil, fun B0 H0 σ H D a d => d.nx σ H a⟩
theorem sx_end (h : A.le N) : SXs X [] A N Bk Ct R := ⟨_, pss_nil, fun B0 H0 σ H D a d => d.nx σ H (h _ _ _ _ a)⟩
theorem sx_cons (h : SX X st A M Bk Ct R) (h' : SXs X sts M N Bk Ct R) : SXs X (st :: sts) A N Bk Ct R := by
  obtain ⟨t, p, f⟩ := h
  obtain ⟨t', p', f'⟩ := h'
  exact ⟨_, pss_cons p p', fun B0 H0 σ H D a d => f B0 H0 σ H _ a ⟨fun σ' H' m => f' B0 H0 σ' H' D m d, d.bk, d.ct, d.rt⟩⟩
/-- the last statement of a block -/
theorem sx_last (h : SX X st A N Bk Ct R) : SXs X [st] A N Bk Ct R := sx_cons h sx_nil
theorem sx_pre (l : A.le A') (h : SXs X sts A' N Bk Ct R) : SXs X sts A N Bk Ct R :=
  let ⟨t, p, f⟩ := h
  ⟨t, p, fun B0 H0 σ H D a d => f B0 H0 σ H D (l _ _ _ _ a) d⟩
theorem sx_pre1 (l : A.le A') (h : SX X st A' N Bk Ct R) : SX X st A N Bk Ct R :=
  let ⟨t, p, f⟩ := h
  ⟨t, p, fun B0 H0 σ H D a d => f B0 H0 σ H D (l _ _ _ _ a) d⟩
theorem sx_post1 (l : N'.le N) (h : SX X st A N' Bk Ct R) : SX X st A N Bk Ct R :=
  let ⟨t, p, f⟩ := h
  ⟨t, p, fun B0 H0 σ H D a d => f B0 H0 σ H D a ⟨fun σ' H' m => d.nx σ' H' (l _ _ _ _ m), d.bk, d.ct, d.rt⟩⟩
theorem sx_ex {ι : Type} {φ : ι → Prop} {a : ι → Asn} (h : ∀ x, φ x → SXs X sts (a x) N Bk Ct R) : SXs X sts (exA φ a) N Bk Ct R :=
  ⟨_, pss_w, fun B0 H0 σ H D ⟨x, hx, ax⟩ d => ⟨a x, N, Bk, Ct, R, B0, H0, h x hx, ax, d⟩⟩
theorem sx_weak (l : GLe Γ Γ') (h : SXs X sts (as Γ' o) N Bk Ct R) : SXs X sts (as Γ o) N Bk Ct R := sx_pre (as_le l) h
theorem sx_freeze {α : Type} [Rep α] {i : Nat} {xs : List α} (h : SXs X sts (as (Γ.set i (some (is X.K xs))) none) N Bk Ct R) (hi : i < Γ.length := by exact Nat.lt_of_succ_le (Nat.le_of_ble_eq_true rfl)) : SXs X sts (as Γ (some (ownL X.K i xs))) N Bk Ct R := sx_pre (as_freeze hi) h
/-! a slot stored -/
theorem Good.set {σ : L2.St} {B H : Hp} {v : V} {i : Nat} (g : Good Γ o σ B H) (hv : P.p B v) (ho : ∀ w, o = some w → w.i ≠ i) (hi : i < Γ.length) : Good (Γ.set i (some P)) o (σ.set i (some v)) B H := by
  refine ⟨g.sub, by rw [List.length_set, List.length_set]; exact g.len, fun j Q e => ?_, fun w e => ?_⟩
  · by_cases q : i = j
    · subst q
      rw [List.getElem?_set_self hi] at e
      cases e
      exact ⟨v, List.getElem?_set_self (by rw [g.len]; exact hi), hv⟩
    · rw [List.getElem?_set_ne q] at e ⊢
      exact g.val j Q e
  · obtain ⟨l, u, e1, e2⟩ := g.own w e
    exact ⟨l, u, by rw [List.getElem?_set_ne (Ne.symm (ho w e))]; exact e1, e2⟩
theorem no_own {Q : Own → Prop} : ∀ w, (none : Option Own) = some w → Q w := fun _ e => by cases e
theorem own_ne {u : Own} {i : Nat} (h : u.i ≠ i) : ∀ w, some u = some w → w.i ≠ i := fun w e => by cases e; exact h
theorem own_neL {K : Fg} {α : Type} [Rep α] {xs : List α} {i j : Nat} (h : i ≠ j) : ∀ w, some (ownL K i xs) = some w → w.i ≠ j := fun w e => by cases e; exact h
theorem own_neI {y C : Addr} {fs : List (Str × MP)} {i j : Nat} (h : i ≠ j) : ∀ w, some (ownI y C i fs) = some w → w.i ≠ j := fun w e => by cases e; exact h
theorem own_ninL {K : Fg} {α : Type} [Rep α] {xs : List α} {i : Nat} {ts : List Nat} (h : i ∉ ts) : ∀ w, some (ownL K i xs) = some w → w.i ∉ ts := fun w e => by cases e; exact h
theorem own_ninI {y C : Addr} {fs : List (Str × MP)} {i : Nat} {ts : List Nat} (h : i ∉ ts) : ∀ w, some (ownI y C i fs) = some w → w.i ∉ ts := fun w e => by cases e; exact h
theorem sx_set (i : Nat) {x : Str} (nd : X.N.Nodup) (he : PX X e Γ o P) (ho : ∀ w, o = some w → w.i ≠ i := by first | exact no_own | exact own_neL (by decide) | exact own_neI (by decide)) (hi : X.N[i]? = some x := by rfl) (hx : Loc X.env.scope x := by first | exact Or.inl rfl | exact Or.inr rfl)
    (hl : i < Γ.length := by exact Nat.lt_of_succ_le (Nat.le_of_ble_eq_true rfl)) (hs : swapsWith e (some (.Name x pos')) pos.line X.env = pure false := by rfl) (hf : X.fn x = true ∨ X.env.scope.names.lookup x = some .local := by first | exact .inl rfl | exact .inr rfl) :
    SX X (.Assign [.Name x pos'] e pos) (as Γ o) (as (Γ.set i (some P)) o) Bk Ct R := by
  obtain ⟨t, p, f⟩ := he
  refine ⟨_, ps_set (i := i) nd hi hx p hs hf, fun B0 H0 σ H D ⟨B, b, g, ow⟩ d => f σ B H _ g fun v B1 H1 s1 hv => ?_⟩
  refine d.nx _ _ ⟨B1, b.stp s1, (g.stp s1).set hv ho hl, fun w l e q => ?_⟩
  rw [List.getElem?_set_ne (Ne.symm (ho w e))] at q
  exact ow w l e q
theorem sx_ret (he : PX X e Γ o P) (h : P.le S) : SX X (.Return (some e) pos) (as Γ o) N Bk Ct (retV S) := by
  obtain ⟨t, p, f⟩ := he
  exact ⟨_, ps_ret p, fun B0 H0 σ H D ⟨B, b, g, ow⟩ d => f σ B H _ g fun v B1 H1 s1 hv => d.rt v σ H1 ⟨B1, b.stp s1, s1.bh, h _ _ hv⟩⟩
theorem sx_retD {α : Type} [Rep α] {x y : α} (he : PX X e Γ o (is X.K x)) (h : x = y) : SX X (.Return (some e) pos) (as Γ o) N Bk Ct (retV (is X.K y)) := by
  subst h
  exact sx_ret he (MP.le_refl _)
theorem sx_retO {w : Own} (he : PX X e Γ (some w) P) (h : P.le S) : SX X (.Return (some e) pos) (as Γ (some w)) N Bk Ct (retO w S) := by
  obtain ⟨t, p, f⟩ := he
  exact ⟨_, ps_ret p, fun B0 H0 σ H D ⟨B, b, g, ow⟩ d => f σ B H _ g fun v B1 H1 s1 hv => d.rt v σ H1 ⟨Γ, B1, b.stp s1, g.stp s1, fun l q => ow w l rfl q, h _ _ hv⟩⟩
theorem sx_expr (he : PX X e Γ o P) (hs : swapsWith e none pos.line X.env = pure false := by rfl) : SX X (.Expr e pos) (as Γ o) (as Γ o) Bk Ct R := by
  obtain ⟨t, p, f⟩ := he
  exact ⟨_, ps_expr p hs, fun B0 H0 σ H D ⟨B, b, g, ow⟩ d => f σ B H _ g fun v B1 H1 s1 hv => d.nx _ _ ⟨B1, b.stp s1, g.stp s1, ow⟩⟩
theorem sx_break : SX X (.Break pos) A N A Ct R := ⟨_, ps_break, fun B0 H0 σ H D a d => d.bk σ H a⟩
theorem sx_pass : SX X (.Pass pos) A A Bk Ct R := ⟨_, ps_pass, fun B0 H0 σ H D a d => d.nx σ H a⟩
theorem sx_never {B : Asn} (h : False) : SXs X sts B N Bk Ct R := h.elim
theorem sx_if {a b : List Stmt} {d : Bool} (hc : PTX X c Γ o d) (ha : d = true → SXs X a (as Γ o) N Bk Ct R) (hb : d = false → SXs X b (as Γ o) N Bk Ct R) : SX X (.If c a b pos) (as Γ o) N Bk Ct R := by
  obtain ⟨t, p, f⟩ := hc
  refine ⟨_, ps_if p pss_w pss_w, fun B0 H0 σ H D ⟨B, bs, g, ow⟩ dk => f σ B H _ g fun B1 H1 s1 => ?_⟩
  cases d with
  | true => exact iteT ⟨_, _, _, _, _, B0, H0, ha rfl, ⟨B1, bs.stp s1, g.stp s1, ow⟩, dk⟩
  | false => exact iteF ⟨_, _, _, _, _, B0, H0, hb rfl, ⟨B1, bs.stp s1, g.stp s1, ow⟩, dk⟩
/-! ### the own list -/
theorem sx_new {α : Type} [Rep α] (i : Nat) {x : Str} {pl : Pos} (nd : X.N.Nodup) (hi : X.N[i]? = some x := by rfl) (hx : Loc X.env.scope x := by first | exact Or.inl rfl | exact Or.inr rfl)
    (hl : i < Γ.length := by exact Nat.lt_of_succ_le (Nat.le_of_ble_eq_true rfl)) (hs : swapsWith (.List [] pl) (some (.Name x pos')) pos.line X.env = pure false := by rfl) (hf : X.fn x = true ∨ X.env.scope.names.lookup x = some .local := by first | exact .inl rfl | exact .inr rfl) :
    SX X (.Assign [.Name x pos'] (.List [] pl) pos) (as Γ none) (as (Γ.set i none) (some (ownL X.K i ([] : List α)))) Bk Ct R := by
  refine ⟨_, ps_set (i := i) nd hi hx (pe_lst pa_nil) hs hf, fun B0 H0 σ H D ⟨B, b, g, ow⟩ d => ?_⟩
  refine ⟨Nat.zero_le _, fun p hp => d.nx _ _ ⟨B, ?_, ⟨?_, ?_, ?_, ?_⟩, ?_⟩⟩
  · exact ⟨b.bb, b.hh.trans fun q u e => by rw [upd_ne (ne_of_none e hp)]; exact e, b.fr⟩
  · intro q u e
    have e2 := g.sub q u e
    rw [upd_ne (ne_of_none e2 hp)]; exact e2
  · rw [List.length_set, List.length_set]; exact g.len
  · intro j Q e
    by_cases q : i = j
    · subst q
      rw [List.getElem?_set_self hl] at e
      cases e
    · rw [List.getElem?_set_ne q] at e ⊢
      exact g.val j Q e
  · intro w e
    cases e
    exact ⟨p, .lst [], List.getElem?_set_self (by rw [g.len]; exact hl), g.sub.free hp, upd_same, [], rfl, trivial⟩
  · intro w l e q
    cases e
    have q2 : some (some (V.ref p)) = some (some (V.ref l)) := (List.getElem?_set_self (by rw [g.len]; exact hl)).symm.trans q
    cases q2
    exact b.hh.free hp
theorem own_upd {w w' : Own} {σ : L2.St} {B0 H0 B H : Hp} {l : Addr} {u : HO} (b : Bs B0 H0 B H) (g : Good Γ (some w) σ B H) (h0 : H0 l = none) (hs : σ[w.i]? = some (some (.ref l))) (hB : B l = none) (hw : w'.i = w.i) (hp : w'.p l B u) :
    (as Γ (some w')).p B0 H0 σ (upd H l u) := by
  refine ⟨B, ⟨b.bb, fun q z e => by rw [upd_ne (ne_of_none e h0)]; exact b.hh _ _ e, b.fr⟩, ⟨fun q z e => by rw [upd_ne (ne_of_none e hB)]; exact g.sub _ _ e, g.len, g.val, fun w2 e => ?_⟩, fun w2 l2 e q => ?_⟩
  · cases e
    exact ⟨l, u, by rw [hw]; exact hs, hB, upd_same, hp⟩
  · cases e
    rw [hw, hs] at q
    cases q
    exact h0
theorem sx_append {α : Type} [Rep α] {i : Nat} {x : Str} {xs : List α} {y : α} {ap np : Pos} (he : PX X e Γ (some (ownL X.K i xs)) (is X.K y)) (hz : xs.length ≤ 1000) (hN : X.N[i]? = some x := by rfl) (hv : Vis X.env.scope x := by first | exact Or.inl rfl | exact Or.inr (Or.inl rfl))
    (hd : (x == ("__debug__" : Str)) = false := by decide) (hcd : (x == ("__classdict__" : Str)) = false := by decide) (hbase : attributeBase (.Name x np) "append" X.env (eval (.Name x np) X.env) = eval (.Name x np) X.env := by rfl)
    (hfew : ((backTo pos' (starEach [e] X.env)).all (fun x => !x.1) && (backToKw pos' (keywordEach [] X.env)).all (fun x => x.1.isSome)
      && decide ([e].length + ([] : List Keyword).length + (if ([] : List Keyword).isEmpty then 0 else 1) < 30)) = true := by rfl)
    (hline : (ap.endLine == pos'.line) = true := by rfl) (hst : starEach [e] X.env = (false, eval e X.env) :: starEach [] X.env := by rfl) (hplain : (backTo pos' (starEach [] X.env)).any (·.1) = false := by rfl)
    (hs : swapsWith (.Call (.Attribute (.Name x np) "append" ap) [e] [] pos') none pos.line X.env = pure false := by rfl) :
    SX X (.Expr (.Call (.Attribute (.Name x np) "append" ap) [e] [] pos') pos) (as Γ (some (ownL X.K i xs))) (as Γ (some (ownL X.K i (xs ++ [y])))) Bk Ct R := by
  obtain ⟨t, p, f⟩ := he
  refine ⟨_, ps_expr (pe_bm PySem.F.plainAttrs_list PySem.F.slot_list_append PySem.F.type_list_append mt_append (pe_var (i := i) hN hv hd hcd) (pa_cons p pa_nil hst) hbase hfew hline hst hplain) hs, fun B0 H0 σ H D ⟨B, b, g, ow⟩ d => ?_⟩
  obtain ⟨l, u, e1, e2, e3, vs, rfl, e4⟩ := g.own _ rfl
  refine ⟨.ref l, e1, .inl ⟨rfl, vs, SqL.of e3⟩, f σ B H _ g fun v B1 H1 s1 hv => ?_⟩
  refine ⟨l, vs, v, rfl, rfl, s1.hh _ _ e3, ?_, d.nx _ _ ?_⟩
  · rw [e4.length, List.length_map]; exact small1000 hz
  · have hB1 : B1 l = none := by
      obtain ⟨l', u', q1, q2, q3, q4⟩ := (g.stp s1).own _ rfl
      rw [e1] at q1
      cases q1
      exact q2
    refine own_upd (w := ownL X.K i xs) (b.stp s1) (g.stp s1) (ow _ l rfl e1) e1 hB1 rfl ⟨vs ++ [v], rfl, ?_⟩
    rw [List.map_append]
    exact (e4.mono s1.bb).append ⟨hv, trivial⟩
end
end L3
set_option maxHeartbeats 400000
/-! The logic's loops and comprehensions. -/
namespace L3
open PySem PySem.Spec PyProof.Rows L2
/-! ### what is walked -/
structure Wk (J : It) (B : Hp) (Ps : List MP) : Prop where
  item : ∀ (i : Nat) (P : MP) (Bc H : Hp), Ps[i]? = some P → Same B Bc → Same Bc H → J.go i H ∧ ∀ x H', J.yld i H x H' → ∃ B', Stp Bc H B' H' ∧ P.p B' x
  stop : ∀ (Bc H : Hp), Same B Bc → Same Bc H → J.stop Ps.length H
def PIX (X : Cx) (tg iter : Expr) (Γ : Gm) (o : Option Own) (Ps : List MP) : Prop := ∃ wi, PI X tg iter wi ∧ ∀ σ B H R, Good Γ o σ B H → (∀ J B' H', Stp B H B' H' → Wk J B' Ps → R J H') → wi σ H R
/-- at most the slots ts are stored -/
structure Only (ts : List Nat) (σ σ' : L2.St) : Prop where
  len : σ'.length = σ.length
  at_ : ∀ j, j ∉ ts → σ'[j]? = σ[j]?
/-- a target: the slots ts are stored -/
def PGX (X : Cx) (tg : Expr) (P : MP) (Γ : Gm) (o : Option Own) (Γ' : Gm) (ts : List Nat) : Prop :=
  ∃ g, PG X tg g ∧ ∀ σ B H v Q, Good Γ o σ B H → P.p B v → (∀ σ', Good Γ' o σ' B H → Only ts σ σ' → Q σ' H) → g v σ H Q
def PGsX (X : Cx) (tgs : List Expr) (Ps : List MP) (Γ : Gm) (o : Option Own) (Γ' : Gm) (ts : List Nat) : Prop :=
  ∃ g, PGs X tgs g ∧ ∀ σ B H vs Q, Good Γ o σ B H → AllR Ps B vs → (∀ σ', Good Γ' o σ' B H → Only ts σ σ' → Q σ' H) → g vs σ H Q
def wG (X : Cx) (tg : Expr) : TG := fun v σ H Q => ∃ P Γ o Γ' ts B, PGX X tg P Γ o Γ' ts ∧ Good Γ o σ B H ∧ P.p B v ∧ ∀ σ', Good Γ' o σ' B H → Only ts σ σ' → Q σ' H
theorem pg_w {X : Cx} {tg : Expr} : PG X tg (wG X tg) := ⟨fun pins s σ H v u Q I r ⟨P, Γ, o, Γ', ts, B, ⟨g, p, f⟩, gd, hv, k⟩ => p.run pins s σ H v u Q I r (f σ B H v Q gd hv k)⟩
theorem Stp.stay {B H B' H' : Hp} {D : Addr} {u : HO} (s : Stp B H B' H') (n : B D = none) (e : H D = some u) : B' D = none := by
  cases q : B' D with
  | none => rfl
  | some z =>
    have := s.fr D z q n
    rw [this] at e; cases e
section
variable {X : Cx} {Γ Γ' Γ2 : Gm} {o : Option Own} {tg iter e : Expr} {es : List Expr} {P : MP} {R : Ret} {Ps Qs : List MP} {ts us : List Nat} {pos : Pos} {body : List Stmt} {A N Bk Ct : Asn}
theorem g_name (i : Nat) {x : Str} (nd : X.N.Nodup) (ho : ∀ w, o = some w → w.i ≠ i := by first | exact no_own | exact own_neL (by decide) | exact own_neI (by decide)) (hi : X.N[i]? = some x := by rfl) (hx : Loc X.env.scope x := by first | exact Or.inl rfl | exact Or.inr rfl)
    (hl : i < Γ.length := by exact Nat.lt_of_succ_le (Nat.le_of_ble_eq_true rfl)) (hf : X.fn x = true ∨ X.env.scope.names.lookup x = some .local := by first | exact .inl rfl | exact .inr rfl) : PGX X (.Name x pos) P Γ o (Γ.set i (some P)) [i] :=
  ⟨_, pg_name nd hi hx hf, fun σ B H v Q g hv k => k _ (g.set hv ho hl) ⟨by rw [List.length_set], fun j hj => by rw [List.getElem?_set_ne (by intro q; exact hj (by simp [q]))]⟩⟩
theorem gs_nil : PGsX X [] [] Γ o Γ [] := ⟨_, pgs_nil, fun σ B H vs Q g hv k => by
  cases vs with
  | nil => exact ⟨rfl, k σ g ⟨rfl, fun _ _ => rfl⟩⟩
  | cons _ _ => exact hv.elim⟩
theorem gs_cons (h : PGX X e P Γ o Γ' ts) (h' : PGsX X es Ps Γ' o Γ2 us) (hs : (assignEach (e :: es) X.env).map (·.2) = assign e X.env :: (assignEach es X.env).map (·.2) := by rfl) : PGsX X (e :: es) (P :: Ps) Γ o Γ2 (ts ++ us) := by
  obtain ⟨g, p, f⟩ := h
  obtain ⟨g', p', f'⟩ := h'
  refine ⟨_, pgs_cons p p' hs, fun σ B H vs Q gd hv k => ?_⟩
  cases vs with
  | nil => exact hv.elim
  | cons v r =>
    refine ⟨v, r, rfl, f σ B H v _ gd hv.1 fun σ1 g1 k1 => f' σ1 B H r Q g1 hv.2 fun σ2 g2 k2 => k σ2 g2 ⟨k2.len.trans k1.len, fun j hj => ?_⟩⟩
    rw [k2.at_ j fun z => hj (List.mem_append_right _ z), k1.at_ j fun z => hj (List.mem_append_left _ z)]
theorem g_tup {k : Nat} {n : Nat} (hc : X.calm = true) (h : PGsX X es Ps Γ o Γ' ts) (hn : Ps.length = n) (hn' : (assignEach es X.env).length = n := by rfl) (hst : (assignEach es X.env).findIdx? (·.1) = none := by rfl) : PGX X (.Tuple es k pos) (tupOf X.K Ps) Γ o Γ' ts := by
  obtain ⟨g, p, f⟩ := h
  refine ⟨_, pg_tup hc p hn' hst, fun σ B H v Q gd ⟨q, vs, h1, h2, h3⟩ k => ?_⟩
  exact ⟨q, vs, h1, SqT_mono gd.sub h2, h3.length.trans hn, f σ B H vs Q gd h3 k⟩
theorem i_lst (h : PX X iter Γ o (lstOf Ps)) : PIX X tg iter Γ o Ps := by
  obtain ⟨t, p, f⟩ := h
  refine ⟨_, pi_list p, fun σ B H R g k => f σ B H _ g fun v B1 H1 s1 ⟨q, vs, h1, h2, h3⟩ => ⟨q, h1, ⟨vs, SqL.of (s1.bh _ _ h2)⟩, k _ B1 H1 s1 ⟨fun i P Bc H e b c => ?_, fun Bc H b c => ?_⟩⟩⟩
  · obtain ⟨u, hu, ru⟩ := h3.get e
    have hq : SqL X.K H q vs := SqL.of (c _ _ (b _ _ h2))
    refine ⟨⟨vs, u, hq, hu⟩, fun x H' ⟨e1, e2⟩ => ?_⟩
    subst e1
    have e3 := e2 vs hq
    rw [hu] at e3
    cases e3
    exact ⟨Bc, .refl c, P.mono b ru⟩
  · exact ⟨vs, SqL.of (c _ _ (b _ _ h2)), by rw [h3.length]; exact Nat.le_refl _⟩
theorem i_rdl (h : PX X iter Γ o (rdlOf X.K Ps)) : PIX X tg iter Γ o Ps := by
  obtain ⟨t, p, f⟩ := h
  refine ⟨_, pi_list p, fun σ B H R g k => f σ B H _ g fun v B1 H1 s1 ⟨q, vs, h1, h2, h3⟩ => ⟨q, h1, ⟨vs, s1.bh.seq h2⟩, k _ B1 H1 s1 ⟨fun i P Bc H e b c => ?_, fun Bc H b c => ?_⟩⟩⟩
  · obtain ⟨u, hu, ru⟩ := h3.get e
    have hq : SqL X.K H q vs := c.seq (b.seq h2)
    refine ⟨⟨vs, u, hq, hu⟩, fun x H' ⟨e1, e2⟩ => ?_⟩
    subst e1
    have e3 := e2 vs hq
    rw [hu] at e3
    cases e3
    exact ⟨Bc, .refl c, P.mono b ru⟩
  · exact ⟨vs, c.seq (b.seq h2), by rw [h3.length]; exact Nat.le_refl _⟩
theorem i_tup (h : PX X iter Γ o (tupOf X.K Ps)) : PIX X tg iter Γ o Ps := by
  obtain ⟨t, p, f⟩ := h
  refine ⟨_, pi_tup p, fun σ B H R g k => f σ B H _ g fun v B1 H1 s1 ⟨q, vs, h1, h2, h3⟩ => ⟨q, h1, ⟨vs, SqT_mono s1.bh h2⟩, k _ B1 H1 s1 ⟨fun i P Bc H e b c => ?_, fun Bc H b c => ?_⟩⟩⟩
  · obtain ⟨u, hu, ru⟩ := h3.get e
    have hq : SqT X.K H q vs := SqT_mono c (SqT_mono b h2)
    refine ⟨⟨vs, u, hq, hu⟩, fun x H' ⟨e1, e2⟩ => ?_⟩
    subst e1
    have e3 := e2 vs hq
    rw [hu] at e3
    cases e3
    exact ⟨Bc, .refl c, P.mono b ru⟩
  · exact ⟨vs, SqT_mono c (SqT_mono b h2), by rw [h3.length]; exact Nat.le_refl _⟩
/-- the ints lo .. -/
def rngP (K : Fg) (lo : Int) (n : Nat) : List MP := (List.range n).map fun (i : Nat) => is K (lo + (i : Int))
theorem rngP_len {K : Fg} {lo : Int} {n : Nat} : (rngP K lo n).length = n := by simp [rngP]
theorem rngP_get {K : Fg} {lo : Int} {n i : Nat} {P : MP} (h : (rngP K lo n)[i]? = some P) : i < n ∧ P = is K (lo + (i : Int)) := by
  unfold rngP at h
  rw [List.getElem?_map] at h
  by_cases hi : i < n
  · rw [List.getElem?_range hi] at h
    exact ⟨hi, (Option.some.inj h).symm⟩
  · rw [List.getElem?_eq_none (by simpa using hi)] at h
    cases h
theorem wk_range {K : Fg} {B : Hp} {lo : Int} {n : Nat} : Wk (Itr lo n) B (rngP K lo n) := ⟨fun i P Bc H e b c => by
  obtain ⟨hi, rfl⟩ := rngP_get e
  exact ⟨hi, fun x H' ⟨e1, e2⟩ => by subst e1; exact ⟨Bc, .refl c, e2⟩⟩, fun Bc H b c => by rw [rngP_len]; exact Nat.le_refl n⟩
theorem i_range1 {a : Expr} {p : Pos} {j : Int} (hm : X.mg "range" = none) (ha : PAX X [a] Γ o [is X.K j]) (h1 : -(2 ^ 62) ≤ j ∧ j < 2 ^ 62) (hg : Gl X "range" := by rfl) (hs : starEach [a] X.env = [(false, eval a X.env)] := by rfl) :
    PIX X tg (.Call (.Name "range" p) [a] [] pos) Γ o (rngP X.K 0 j.toNat) := by
  obtain ⟨t, pp, f⟩ := ha
  refine ⟨_, pi_range1 hg hm pp hs, fun σ B H R g k => f σ B H _ g fun vs B1 H1 s1 hv => ?_⟩
  match vs, hv with
  | [v], hv =>
    have e : v = .int j := hv.1
    subst e
    exact ⟨j, rfl, h1.1, h1.2, k _ B1 H1 s1 wk_range⟩
theorem i_range2 {a b : Expr} {p : Pos} {i j : Int} (hm : X.mg "range" = none) (ha : PAX X [a, b] Γ o [is X.K i, is X.K j]) (h1 : -(2 ^ 62) ≤ i ∧ i < 2 ^ 62 ∧ -(2 ^ 62) ≤ j ∧ j < 2 ^ 62) (hg : Gl X "range" := by rfl)
    (hs : starEach [a, b] X.env = [(false, eval a X.env), (false, eval b X.env)] := by rfl) (hs2 : starEach [b] X.env = [(false, eval b X.env)] := by rfl) :
    PIX X tg (.Call (.Name "range" p) [a, b] [] pos) Γ o (rngP X.K i (j - i).toNat) := by
  obtain ⟨t, pp, f⟩ := ha
  refine ⟨_, pi_range2 hg hm pp hs hs2, fun σ B H R g k => f σ B H _ g fun vs B1 H1 s1 hv => ?_⟩
  match vs, hv with
  | [v, u], hv =>
    have e : v = .int i := hv.1
    have e' : u = .int j := hv.2.1
    subst e e'
    exact ⟨i, j, rfl, h1, k _ B1 H1 s1 wk_range⟩
/-! ### for -/
/-- the heap without the own object -/
def cut1 (H : Hp) (l : Option Addr) : Hp := fun a => if l = some a then none else H a
theorem cut1_none {H : Hp} {l : Option Addr} {a : Addr} (h : l = some a) : cut1 H l a = none := if_pos h
theorem base_of {B0 H0 B H : Hp} {σ : L2.St} (b : Bs B0 H0 B H) (g : Good Γ o σ B H) (ow : ∀ w l, o = some w → σ[w.i]? = some (some (.ref l)) → H0 l = none) :
    ∃ Hm, Bs B0 H0 B Hm ∧ (as Γ o).p B Hm σ H := by
  cases o with
  | none => exact ⟨H, b, B, .refl B H, g, fun w l e _ => by cases e⟩
  | some w =>
    obtain ⟨l, u, e1, e2, e3, e4⟩ := g.own w rfl
    have hl : H0 l = none := ow w l rfl e1
    refine ⟨cut1 H (some l), ⟨b.bb, fun q z e => ?_, b.fr⟩, B, ⟨Same.refl _, fun q z e => ?_, fun q z e n => by rw [n] at e; cases e⟩, g, fun w2 l2 e q => ?_⟩
    · unfold cut1
      rw [if_neg (by intro z; cases z; rw [hl] at e; cases e)]
      exact b.hh _ _ e
    · unfold cut1 at e
      split at e
      · cases e
      · exact e
    · cases e
      rw [e1] at q
      cases q
      exact cut1_none rfl
theorem sx_forG {ι : Type} (I : Nat → ι → Gm) (J : Nat → ι → Option Own) (φ : Nat → ι → Prop) (x0 : ι) (hi : PIX X tg iter Γ o Ps) (h0 : φ 0 x0) (hs0 : (as Γ o).le (as (I 0 x0) (J 0 x0)))
    (hs : ∀ i x P, Ps[i]? = some P → φ i x → ∃ Γ' ts, PGX X tg P (I i x) (J i x) Γ' ts ∧ (∀ w, J i x = some w → w.i ∉ ts) ∧ SXs X body (as Γ' (J i x)) (exA (φ (i + 1)) fun y => as (I (i + 1) y) (J (i + 1) y)) N (exA (φ (i + 1)) fun y => as (I (i + 1) y) (J (i + 1) y)) R)
    (hd : ∀ x, φ Ps.length x → (as (I Ps.length x) (J Ps.length x)).le N) (hc : X.calm = true := by rfl) (hp : PassesOwn (model X.prog X.w) X.A X.env X.xe := by exact PassesOwn.never) (hf : ∀ x, foldedSetIterable iter X.env x = pure x := by intro _; rfl) :
    SX X (.For tg iter body [] pos) (as Γ o) N Bk Ct R := by
  obtain ⟨wi, pi, fi⟩ := hi
  refine ⟨_, ps_for hp hc pi pg_w pss_w hf, fun B0 H0 σ H D ⟨B, b, g, ow⟩ d => fi σ B H _ g fun K1 B1 H1 s1 wk => ?_⟩
  obtain ⟨Hm, bm, a1⟩ := base_of (b.stp s1) (g.stp s1) ow
  refine ⟨fun i m σ H => m = Ps.length - i ∧ i ≤ Ps.length ∧ ∃ x, φ i x ∧ (as (I i x) (J i x)).p B1 Hm σ H, ⟨_, rfl, Nat.zero_le _, x0, h0, hs0 _ _ _ _ a1⟩, ?_⟩
  rintro i m σ H ⟨rfl, hi, x, hx, Bc, bc, gc, oc⟩
  by_cases hlt : i < Ps.length
  · obtain ⟨P, hP⟩ : ∃ P, Ps[i]? = some P := ⟨_, List.getElem?_eq_getElem hlt⟩
    obtain ⟨go, yl⟩ := wk.item i P Bc H hP bc.bb gc.sub
    refine .inr ⟨go, fun σ' H' => ∃ y, φ (i + 1) y ∧ (as (I (i + 1) y) (J (i + 1) y)).p B1 Hm σ' H', fun σ' H' q => ⟨Ps.length - (i + 1), by omega, rfl, hlt, q⟩, fun v H' hv => ?_⟩
    obtain ⟨B', st, rv⟩ := yl v H' hv
    obtain ⟨Γ', ts, gx, nts, bx⟩ := hs i x P hP hx
    refine ⟨P, _, _, Γ', ts, B', gx, gc.stp st, rv, fun σ' g' k' => ⟨_, _, _, _, _, B1, Hm, bx, ⟨B', bc.stp st, g', fun w l e q => ?_⟩, ?_⟩⟩
    · rw [k'.at_ w.i (nts w e)] at q
      exact oc w l e q
    · exact ⟨fun σ2 H2 q => q, fun σ2 H2 q => d.nx σ2 H2 (N.base bm q), fun σ2 H2 q => q, fun u σ2 H2 r2 => d.rt u σ2 H2 ((R u).base bm r2)⟩
  · have e : i = Ps.length := by omega
    subst e
    exact .inl ⟨wk.stop Bc H bc.bb gc.sub, d.nx _ _ (N.base bm (hd x hx _ _ _ _ ⟨Bc, bc, gc, oc⟩))⟩
/-! ### while -/
theorem sx_whileG {ι : Type} {c : Expr} (I : ι → Gm) (J : ι → Option Own) (φ : ι → Prop) (μ : ι → Nat) (t : ι → Bool) (x0 : ι) (h0 : φ x0) (hs0 : (as Γ o).le (as (I x0) (J x0)))
    (hc : ∀ x, φ x → PTX X c (I x) (J x) (t x)) (hb : ∀ x, φ x → t x = true → SXs X body (as (I x) (J x)) (exA (fun y => φ y ∧ μ y < μ x) fun y => as (I y) (J y)) N (exA (fun y => φ y ∧ μ y < μ x) fun y => as (I y) (J y)) R)
    (hd : ∀ x, φ x → t x = false → (as (I x) (J x)).le N) (hp : PassesOwn (model X.prog X.w) X.A X.env X.xe := by exact PassesOwn.never) : SX X (.While c body [] pos) (as Γ o) N Bk Ct R := by
  have hpt : PT X c (fun σ H Q => ∃ Γ o d B, PTX X c Γ o d ∧ Good Γ o σ B H ∧ ∀ B' H', Stp B H B' H' → Q d H') := ⟨fun pins s σ H Q I ⟨Γ, o, d, B, ⟨t, p, f⟩, g, k⟩ => p.run pins s σ H Q I (f σ B H Q g k)⟩
  refine ⟨_, ps_while hp hpt pss_w, fun B0 H0 σ H D a d => ?_⟩
  refine ⟨fun m σ H => ∃ x, m = μ x ∧ φ x ∧ (as (I x) (J x)).p B0 H0 σ H, ⟨_, x0, rfl, h0, hs0 _ _ _ _ a⟩, ?_⟩
  rintro m σ H ⟨x, rfl, hx, Bc, bc, gc, oc⟩
  refine ⟨_, _, _, Bc, hc x hx, gc, fun B' H' st => ?_⟩
  cases e : t x with
  | true =>
    refine iteT ⟨fun σ' H' => ∃ y, (φ y ∧ μ y < μ x) ∧ (as (I y) (J y)).p B0 H0 σ' H', fun σ' H' ⟨y, ⟨h1, h2⟩, h3⟩ => ⟨μ y, h2, y, rfl, h1, h3⟩, ?_⟩
    exact ⟨_, _, _, _, _, B0, H0, hb x hx e, ⟨B', bc.stp st, gc.stp st, oc⟩, fun σ2 H2 q => q, fun σ2 H2 q => d.nx σ2 H2 q, fun σ2 H2 q => q, d.rt⟩
  | false => exact iteF (d.nx _ _ (hd x hx e _ _ _ _ ⟨B', bc.stp st, gc.stp st, oc⟩))
/-! ### comprehensions -/
def wipeG (Γ : Gm) : List Nat → Gm
  | [] => Γ
  | v :: vs => (wipeG Γ vs).set v none
theorem wipeG_length {Γ : Gm} : ∀ vs : List Nat, (wipeG Γ vs).length = Γ.length
  | [] => rfl
  | v :: vs => by unfold wipeG; rw [List.length_set, wipeG_length vs]
theorem wipe_get {σ : L2.St} : ∀ {vs : List Nat} {i : Nat}, i ∉ vs → (wipe σ vs)[i]? = σ[i]?
  | [], _, _ => rfl
  | v :: vs, i, h => by
    have h1 : v ≠ i := fun e => h (by simp [e])
    have h2 : i ∉ vs := fun e => h (List.mem_cons_of_mem _ e)
    show ((wipe σ vs).set v none)[i]? = σ[i]?
    rw [List.getElem?_set_ne h1, wipe_get h2]
theorem wipeG_get : ∀ {vs : List Nat} {i : Nat} {P : MP}, (wipeG Γ vs)[i]? = some (some P) → Γ[i]? = some (some P) ∧ i ∉ vs
  | [], i, P, h => ⟨h, by simp⟩
  | v :: vs, i, P, h => by
    have h' : ((wipeG Γ vs).set v none)[i]? = some (some P) := h
    by_cases q : v = i
    · subst q
      by_cases hv : v < (wipeG Γ vs).length
      · rw [List.getElem?_set_self hv] at h'; cases h'
      · rw [List.getElem?_eq_none (by rw [List.length_set]; omega)] at h'; cases h'
    · rw [List.getElem?_set_ne q] at h'
      obtain ⟨h1, h2⟩ := wipeG_get h'
      exact ⟨h1, by simp only [List.mem_cons, not_or]; exact ⟨fun e => q e.symm, h2⟩⟩
theorem Good.wipe {σ : L2.St} {B H : Hp} {vs : List Nat} (g : Good Γ o σ B H) (ho : ∀ w, o = some w → w.i ∉ vs) : Good (wipeG Γ vs) o (wipe σ vs) B H :=
  ⟨g.sub, by rw [wipe_length, wipeG_length]; exact g.len, fun i P e => by
    obtain ⟨h1, h2⟩ := wipeG_get e
    rw [wipe_get h2]
    exact g.val i P h1, fun w e => by
    obtain ⟨l, u, e1, e2⟩ := g.own w e
    exact ⟨l, u, by rw [wipe_get (ho w e)]; exact e1, e2⟩⟩
theorem wipe_eq {σ σ' : L2.St} {vs ts : List Nat} (hl : σ'.length = σ.length) (h : ∀ j, j ∉ ts → σ'[j]? = (wipe σ vs)[j]?) (hs : ∀ j ∈ ts, j ∈ vs) : wipe σ' vs = wipe σ vs := by
  have key : ∀ (us : List Nat) (α β : L2.St), α.length = β.length → (∀ j, j ∉ us → α[j]? = β[j]?) → L2.wipe α us = L2.wipe β us := by
    intro us
    induction us with
    | nil =>
      intro α β _ h
      exact List.ext_getElem? fun j => h j (by simp)
    | cons u us ih =>
      intro α β hl h
      show (L2.wipe α us).set u none = (L2.wipe β us).set u none
      have e : ∀ γ : L2.St, (L2.wipe γ us).set u none = L2.wipe (γ.set u none) us := by
        intro γ
        clear ih h hl
        induction us with
        | nil => rfl
        | cons w us ih2 =>
          show ((L2.wipe γ us).set w none).set u none = (L2.wipe (γ.set u none) us).set w none
          by_cases q : w = u
          · subst q
            rw [← ih2]
          · rw [List.set_comm _ _ q, ih2]
      rw [e α, e β]
      refine ih _ _ (by rw [List.length_set, List.length_set, hl]) fun j hj => ?_
      by_cases q : u = j
      · subst q
        by_cases hu : u < α.length
        · rw [List.getElem?_set_self hu, List.getElem?_set_self (by omega)]
        · rw [List.getElem?_eq_none (by rw [List.length_set]; omega), List.getElem?_eq_none (by rw [List.length_set]; omega)]
      · rw [List.getElem?_set_ne q, List.getElem?_set_ne q]
        exact h j (by simp only [List.mem_cons, not_or]; exact ⟨fun e => q e.symm, hj⟩)
  refine key vs σ' σ hl fun j hj => ?_
  rw [h j fun z => hj (hs j z), wipe_get hj]
def PTsX (X : Cx) (ifs : List Expr) (Γ : Gm) (o : Option Own) (b : Bool) : Prop := ∃ t, PTs X ifs t ∧ ∀ σ B H Q, Good Γ o σ B H → (∀ B' H', Stp B H B' H' → Q b H') → t σ H Q
theorem ts_nil : PTsX X [] Γ o true := ⟨_, pts_nil, fun σ B H Q g k => k B H (.refl g.sub)⟩
theorem ts_one {c : Expr} {d : Bool} (h : PTX X c Γ o d) : PTsX X [c] Γ o d := by
  obtain ⟨t, p, f⟩ := h
  exact ⟨_, pts_one p, f⟩
/-- the results of the first n turns -/
def outs (b : Nat → Bool) (Rs : Nat → MP) (n : Nat) : List MP := (List.range n).filterMap fun i => if b i = true then some (Rs i) else none
theorem outs_succ {b : Nat → Bool} {Rs : Nat → MP} {n : Nat} : outs b Rs (n + 1) = outs b Rs n ++ (if b n = true then [Rs n] else []) := by
  unfold outs
  rw [List.range_succ, List.filterMap_append]
  congr 1
  cases h : b n <;> simp [h]
theorem outs_len {b : Nat → Bool} {Rs : Nat → MP} : ∀ n, (outs b Rs n).length ≤ n
  | 0 => Nat.le_refl _
  | n + 1 => by
    rw [outs_succ, List.length_append]
    have := outs_len (b := b) (Rs := Rs) n
    cases b n <;> simp <;> omega
abbrev blkX (X : Cx) (scope : Scope) (s : Shared) (H : Hp) (C : Addr) (cl : List (Str × Addr)) (fp : List Addr) : Cx := X.blk s H scope (compEnvC scope cl C X.env) fp
theorem lcG {elt : Expr} {ifs : List Expr} {scope : Scope} {own : List (Str × Nat)} (b : Nat → Bool) (Rs : Nat → MP) (hi : PIX X tg iter Γ o Ps) (hn : Ps.length ≤ 1000) (ho : ∀ w, o = some w → w.i ∉ own.map (·.2))
    (hs : ∀ i P, Ps[i]? = some P → ∃ Γ' ts, (∀ j ∈ ts, j ∈ own.map (·.2)) ∧ ∀ s H C cl fp, PGX (blkX X scope s H C cl fp) tg P (wipeG Γ (own.map (·.2))) o Γ' ts ∧ PTsX (blkX X scope s H C cl fp) ifs Γ' o (b i) ∧ (b i = true → PX (blkX X scope s H C cl fp) elt Γ' o (Rs i))) :
    ∃ wi g tt te, PI X tg iter wi ∧ (∀ s H C cl fp, PG (blkX X scope s H C cl fp) tg g) ∧ (∀ s H C cl fp, PTs (blkX X scope s H C cl fp) ifs tt) ∧ (∀ s H C cl fp, PE (blkX X scope s H C cl fp) elt te) ∧
      ∀ σ B H Q, Good Γ o σ B H → (∀ v B' H', Stp B H B' H' → (lstOf (outs b Rs Ps.length)).p B' v → Q v H') → tLc wi g tt te (own.map (·.2)) σ H Q := by
  obtain ⟨wi, pi, fi⟩ := hi
  refine ⟨wi, fun v σ H Q => ∃ P Γ o Γ' ts B, (∀ s H C cl fp, PGX (blkX X scope s H C cl fp) tg P Γ o Γ' ts) ∧ Good Γ o σ B H ∧ P.p B v ∧ ∀ σ', Good Γ' o σ' B H → Only ts σ σ' → Q σ' H,
    fun σ H Q => ∃ Γ o d B, (∀ s H C cl fp, PTsX (blkX X scope s H C cl fp) ifs Γ o d) ∧ Good Γ o σ B H ∧ ∀ B' H', Stp B H B' H' → Q d H',
    fun σ H Q => ∃ Γ o R B, (∀ s H C cl fp, PX (blkX X scope s H C cl fp) elt Γ o R) ∧ Good Γ o σ B H ∧ ∀ v B' H', Stp B H B' H' → R.p B' v → Q v H', pi, ?_, ?_, ?_, ?_⟩
  · exact fun s0 H0 C cl fp => ⟨fun pins s σ H v u Q I r ⟨P, Γ, o, Γ', ts, B, hh, gd, hv, k⟩ => by
      obtain ⟨g, p, f⟩ := hh s0 H0 C cl fp
      exact p.run pins s σ H v u Q I r (f σ B H v Q gd hv k)⟩
  · exact fun s0 H0 C cl fp => ⟨fun pins s σ H Q I ⟨Γ, o, d, B, hh, gd, k⟩ => by
      obtain ⟨t, p, f⟩ := hh s0 H0 C cl fp
      exact p.run pins s σ H Q I (f σ B H Q gd k)⟩
  · exact fun s0 H0 C cl fp => ⟨fun pins s σ H Q I ⟨Γ, o, R, B, hh, gd, k⟩ => by
      obtain ⟨t, p, f⟩ := hh s0 H0 C cl fp
      exact p.run pins s σ H Q I (f σ B H Q gd k)⟩
  · refine fun σ B H Q g k => fi σ B H _ g fun J B1 H1 s1 wk D hD => ?_
    -- the invariant: B grows, the new list at D lies outside
    refine ⟨fun i m H2 => m = Ps.length - i ∧ i ≤ Ps.length ∧ ∃ B2 acc, Bs B1 H1 B2 H2 ∧ Good Γ o σ B2 H2 ∧ B2 D = none ∧ H2 D = some (.lst acc) ∧ AllR (outs b Rs i) B2 acc, ⟨_, rfl, Nat.zero_le _, B1, [], ?_, ?_, s1.bh.free hD, upd_same, trivial⟩, ?_⟩
    · exact ⟨Same.refl _, fun q u e => by rw [upd_ne (ne_of_none e hD)]; exact e, fun q u e n => by rw [n] at e; cases e⟩
    · have g1 := g.stp s1
      refine ⟨fun q u e => by rw [upd_ne (ne_of_none (g1.sub _ _ e) hD)]; exact g1.sub _ _ e, g1.len, g1.val, fun w e => ?_⟩
      obtain ⟨l, u, e1, e2, e3, e4⟩ := g1.own w e
      exact ⟨l, u, e1, e2, by rw [upd_ne (ne_of_none e3 hD)]; exact e3, e4⟩
    · rintro i m H2 ⟨rfl, hi, B2, acc, b2, g2, d1, d2, ra⟩
      by_cases hlt : i < Ps.length
      · obtain ⟨P, hP⟩ : ∃ P, Ps[i]? = some P := ⟨_, List.getElem?_eq_getElem hlt⟩
        obtain ⟨go, yl⟩ := wk.item i P B2 H2 hP b2.bb g2.sub
        refine .inr ⟨go, fun H' => ∃ B2 acc, Bs B1 H1 B2 H' ∧ Good Γ o σ B2 H' ∧ B2 D = none ∧ H' D = some (.lst acc) ∧ AllR (outs b Rs (i + 1)) B2 acc, fun H' q => ⟨Ps.length - (i + 1), by omega, rfl, hlt, q⟩, fun v H' hv => ?_⟩
        obtain ⟨B3, s3, rv⟩ := yl v H' hv
        obtain ⟨Γ', ts, hts, hh⟩ := hs i P hP
        have g3 := g2.stp s3
        refine ⟨P, _, o, Γ', ts, B3, fun s H C cl fp => (hh s H C cl fp).1, g3.wipe ho, rv, fun σ' g' k' => ⟨wipe_eq (k'.len.trans (wipe_length _ _)) k'.at_ hts, ?_⟩⟩
        refine ⟨Γ', o, b i, B3, fun s H C cl fp => (hh s H C cl fp).2.1, g', fun B4 H4 s4 => ?_⟩
        have n3 := s3.stay d1 d2
        have n4 := s4.stay n3 (s3.hh _ _ d2)
        cases eb : b i with
        | true =>
          refine iteT ⟨Γ', o, Rs i, B4, fun s H C cl fp => (hh s H C cl fp).2.2 eb, g'.stp s4, fun y B5 H5 s5 ry => ?_⟩
          have n5 := s5.stay n4 (s4.hh _ _ (s3.hh _ _ d2))
          have g5 := (g3.stp s4).stp s5
          have b5 := ((b2.stp s3).stp s4).stp s5
          refine ⟨acc, s5.hh _ _ (s4.hh _ _ (s3.hh _ _ d2)), ?_, B5, acc ++ [y], ⟨b5.bb, fun q u e => by rw [upd_ne (ne_of_none e hD)]; exact b5.hh _ _ e, b5.fr⟩, ⟨fun q u e => by rw [upd_ne (ne_of_none e n5)]; exact g5.sub _ _ e, g5.len, g5.val, fun w e => ?_⟩, n5, upd_same, ?_⟩
          · rw [ra.length]
            exact small1000 (Nat.le_trans (outs_len i) (Nat.le_trans hi hn))
          · obtain ⟨l, u, e1, e2, e3, e4⟩ := g5.own w e
            obtain ⟨l', u', q1, q2, q3, q4⟩ := (g.stp s1).own w e
            rw [e1] at q1
            cases q1
            exact ⟨l, u, e1, e2, by rw [upd_ne (ne_of_none q3 hD)]; exact e3, e4⟩
          · rw [outs_succ, eb]
            exact (ra.mono (s3.bb.trans (s4.bb.trans s5.bb))).append ⟨ry, trivial⟩
        | false =>
          refine iteF ⟨B4, acc, (b2.stp s3).stp s4, g3.stp s4, n4, s4.hh _ _ (s3.hh _ _ d2), ?_⟩
          rw [outs_succ, eb]
          simpa using ra.mono (s3.bb.trans s4.bb)
      · have e : i = Ps.length := by omega
        subst e
        refine .inl ⟨wk.stop B2 H2 b2.bb g2.sub, k _ (upd B2 D (.lst acc)) H2 ⟨fun q u e => by rw [upd_ne (ne_of_none (b2.bb _ _ (s1.bb _ _ e)) d1)]; exact b2.bb _ _ (s1.bb _ _ e), fun q u e => ?_, s1.hh.trans b2.hh, fun q u e n => ?_⟩ ⟨D, acc, rfl, upd_same, ra.mono fun q u e => by rw [upd_ne (ne_of_none e d1)]; exact e⟩⟩
        · by_cases z : q = D
          · subst z; rw [upd_same] at e; cases e; exact d2
          · rw [upd_ne z] at e; exact g2.sub _ _ e
        · by_cases z : q = D
          · subst z; exact s1.hh.free hD
          · rw [upd_ne z] at e
            have b3 : Bs B H B2 H2 := (⟨s1.bb, s1.hh, s1.fr⟩ : Bs B H B1 H1).trans b2
            exact b3.fr q u e n
theorem x_lcG {elt : Expr} {ifs : List Expr} {scope : Scope} {own : List (Str × Nat)} (b : Nat → Bool) (Rs : Nat → MP) (nd : X.N.Nodup) (hi : PIX X tg iter Γ o Ps) (hn : Ps.length ≤ 1000) (ho : ∀ w, o = some w → w.i ∉ own.map (·.2)) (ok : BlkOk X.N X.env.scope scope own)
    (hs : ∀ i P, Ps[i]? = some P → ∃ Γ' ts, (∀ j ∈ ts, j ∈ own.map (·.2)) ∧ ∀ s H C cl fp, PGX (blkX X scope s H C cl fp) tg P (wipeG Γ (own.map (·.2))) o Γ' ts ∧ PTsX (blkX X scope s H C cl fp) ifs Γ' o (b i) ∧ (b i = true → PX (blkX X scope s H C cl fp) elt Γ' o (Rs i)))
    (hc : X.calm = true := by rfl) (hf : ∀ x, foldedSetIterable iter X.env x = pure x := by intro _; rfl) : PX X (.ListComp elt [⟨tg, iter, ifs, 0⟩] scope pos) Γ o (lstOf (outs b Rs Ps.length)) := by
  obtain ⟨wi, g, tt, te, h1, h2, h3, h4, h5⟩ := lcG b Rs hi hn ho hs
  exact ⟨_, pe_lc hc nd h1 ok h2 h3 h4 hf, h5⟩
theorem sx_lcG {elt : Expr} {ifs : List Expr} {scope : Scope} {own : List (Str × Nat)} {y : Str} {py spos : Pos} (iy : Nat) (b : Nat → Bool) (Rs : Nat → MP) (nd : X.N.Nodup) (hi : PIX X tg iter Γ o Ps) (hn : Ps.length ≤ 1000) (ho : ∀ w, o = some w → w.i ∉ own.map (·.2)) (ok : BlkOk X.N X.env.scope scope own)
    (hs : ∀ i P, Ps[i]? = some P → ∃ Γ' ts, (∀ j ∈ ts, j ∈ own.map (·.2)) ∧ ∀ s H C cl fp, PGX (blkX X scope s H C cl fp) tg P (wipeG Γ (own.map (·.2))) o Γ' ts ∧ PTsX (blkX X scope s H C cl fp) ifs Γ' o (b i) ∧ (b i = true → PX (blkX X scope s H C cl fp) elt Γ' o (Rs i)))
    (hsw : swapsWith (.ListComp elt [⟨tg, iter, ifs, 0⟩] scope pos) (some (.Name y py)) spos.line X.env = pure true)
    (hy : X.N[iy]? = some y := by rfl) (hyl : X.env.scope.names.lookup y = some .local := by rfl) (hl : iy < Γ.length := by exact Nat.lt_of_succ_le (Nat.le_of_ble_eq_true rfl)) (hoy : ∀ w, o = some w → w.i ≠ iy := by first | exact no_own | exact own_neL (by decide) | exact own_neI (by decide))
    (hc : X.calm = true := by rfl) (hf : ∀ x, foldedSetIterable iter X.env x = pure x := by intro _; rfl) :
    SX X (.Assign [.Name y py] (.ListComp elt [⟨tg, iter, ifs, 0⟩] scope pos) spos) (as Γ o) (as (Γ.set iy (some (lstOf (outs b Rs Ps.length)))) o) Bk Ct R := by
  obtain ⟨wi, g, tt, te, h1, h2, h3, h4, h5⟩ := lcG b Rs hi hn ho hs
  refine ⟨_, ps_setLc (i := iy) hc nd hy hyl hsw h1 ok h2 h3 h4 hf, fun B0 H0 σ H D ⟨B, bb, g, ow⟩ d => h5 σ B H _ g fun v B1 H1 s1 hv => ?_⟩
  refine d.nx _ _ ⟨B1, bb.stp s1, (g.stp s1).set hv hoy hl, fun w l e q => ?_⟩
  rw [List.getElem?_set_ne (Ne.symm (hoy w e))] at q
  exact ow w l e q
end
end L3
set_option maxHeartbeats 200000
namespace L3
open PySem PySem.Spec PyProof.Rows L2
section
variable {X : Cx} {Γ Γ' Γ2 : Gm} {o : Option Own} {tg iter e : Expr} {es : List Expr} {P R : MP} {Ps Qs : List MP} {ts us : List Nat} {pos : Pos} {body : List Stmt} {A N Bk Ct : Asn}
theorem AllR.two {B : Hp} : ∀ {vs : List V}, AllR [P, R] B vs → ∃ v u, vs = [v, u] ∧ P.p B v ∧ R.p B u
  | [v, u], h => ⟨v, u, rfl, h.1, h.2.1⟩
  | [], h => h.elim
  | [_], h => h.2.elim
  | _ :: _ :: _ :: _, h => h.2.2.elim
theorem wk_zip {K : Fg} {B1 : Hp} {q q' : Addr} {xs ys : List V} (hx : SqT K B1 q xs) (rx : AllR Ps B1 xs) (hy : SqT K B1 q' ys) (ry : AllR Qs B1 ys) (hl : Ps.length = Qs.length) : Wk (RZ.ItzT K q q') B1 ((Ps.zip Qs).map fun q => tupOf K [q.1, q.2]) := by
  refine ⟨fun i P Bc H e b c => ?_, fun Bc H b c => ?_⟩
  · rw [List.getElem?_map] at e
    cases ez : (Ps.zip Qs)[i]? with
    | none => rw [ez] at e; cases e
    | some w =>
      rw [ez] at e
      have e := (Option.some.inj e).symm
      subst e
      obtain ⟨w1, w2⟩ := w
      obtain ⟨hw1, hw2⟩ := List.getElem?_zip_eq_some.mp ez
      obtain ⟨x, ex, rx'⟩ := rx.get hw1
      obtain ⟨y, ey, ry'⟩ := ry.get hw2
      have hqx := SqT_mono c (SqT_mono b hx)
      have hqy := SqT_mono c (SqT_mono b hy)
      refine ⟨⟨xs, ys, x, y, hqx, hqy, ex, ey⟩, fun z H' hz => ?_⟩
      obtain ⟨T, x', y', ev, eT, eH, h1, h2⟩ := hz
      have e1 : x = x' := Option.some.inj (ex.symm.trans (h1 xs hqx))
      have e2 : y = y' := Option.some.inj (ey.symm.trans (h2 ys hqy))
      subst e1 e2 ev eH
      have st := Stp.new (u := .tup [x, y]) c eT
      exact ⟨_, st, T, [x, y], rfl, SqT.of upd_same, w1.mono (b.trans st.bb) rx', w2.mono (b.trans st.bb) ry', trivial⟩
  · refine ⟨xs, ys, SqT_mono c (SqT_mono b hx), SqT_mono c (SqT_mono b hy), .inl ?_⟩
    rw [rx.length, List.length_map, List.length_zip, ← hl, Nat.min_self]
    exact Nat.le_refl _
theorem i_zipT {a b : Expr} {p tpos : Pos} {elts : List Expr} {kk : Nat} (hm : X.mg "zip" = none) (ha : PAX X [a, b] Γ o [tupOf X.K Ps, tupOf X.K Qs]) (hl : Ps.length = Qs.length) (hg : Gl X "zip" := by rfl)
    (hs : starEach [a, b] X.env = (false, eval a X.env) :: starEach [b] X.env := by rfl) (hpl : (backTo pos (starEach [b] X.env)).any (·.1) = false := by rfl) :
    PIX X (.Tuple elts kk tpos) (.Call (.Name "zip" p) [a, b] [] pos) Γ o ((Ps.zip Qs).map fun q => tupOf X.K [q.1, q.2]) := by
  obtain ⟨t, pp, f⟩ := ha
  have key : ∀ σ B H R, Good Γ o σ B H → (∀ J B' H', Stp B H B' H' → Wk J B' ((Ps.zip Qs).map fun q => tupOf X.K [q.1, q.2]) → R J H') → RZ.iZipA X.K t σ H R := fun σ B H R g k => by
    unfold RZ.iZipA
    refine f σ B H _ g fun vs B1 H1 s1 hv => ?_
    obtain ⟨v, u, rfl, h1, h2⟩ := hv.two
    obtain ⟨q, xs, e1, hx, rx⟩ := h1
    obtain ⟨q', ys, e2, hy, ry⟩ := h2
    exact ⟨q, q', xs, ys, by rw [e1, e2], .inr ⟨SqT_mono s1.bh hx, SqT_mono s1.bh hy, k _ B1 H1 s1 (wk_zip hx rx hy ry hl)⟩⟩
  have p2 := RZ.pi_zipA (X := X) (kk := kk) (tpos := tpos) (elts := elts) (p := p) (pos := pos) hg hm pp hs hpl
  exact Exists.intro _ (And.intro p2 key)
end
end L3
set_option maxHeartbeats 400000
/-! The logic's defs: promises, calls, methods, instances made. -/
namespace L3
open PySem PySem.Spec PyProof.Rows L2
/-- the promise of a def: from data x to data -/
def spF {α : Type} (pre : α → Prop) (A : α → List MP) (R : α → MP) : Sp := fun vs H Q _ => ∃ (x : α) (B : Hp), pre x ∧ Same B H ∧ AllR (A x) B vs ∧ ∀ v B' H', Stp B H B' H' → (R x).p B' v → Q v H'
/-- the promise of a method that changes its object's fields -/
def spM {α : Type} (C : Addr) (pre : α → Prop) (A : α → List MP) (F0 F1 : α → List (Str × MP)) (R : α → MP) : Sp := fun vs H Q _ => ∃ (a : α) (B : Hp) (x : Addr) (r : List V) (u : HO), vs = .ref x :: r ∧ pre a ∧ Same B H ∧ B x = none ∧ AllR (A a) B r ∧ H x = some u ∧ (ownI x C 0 (F0 a)).p x B u ∧
  ∀ v B' H' u', Bs B (cut1 H (some x)) B' H' → Same B' H' → B' x = none → H' x = some u' → (ownI x C 0 (F1 a)).p x B' u' → (R a).p B' v → Q v H'
/-- the slots at the entry -/
def G0 (Ps : List MP) (n : Nat) : Gm := Ps.map some ++ List.replicate (n - Ps.length) none
theorem start_good {N : List Str} {vs : List V} {Ps : List MP} {B H : Hp} (h : Same B H) (r : AllR Ps B vs) : Good (G0 Ps N.length) none (L2.start N vs) B H := by
  refine ⟨h, ?_, fun i P e => ?_, fun _ e => by cases e⟩
  · unfold L2.start G0
    rw [List.length_append, List.length_append, List.length_map, List.length_map, List.length_replicate, List.length_replicate, r.length]
  · have hi : i < Ps.length := by
      unfold G0 at e
      by_cases hi : i < Ps.length
      · exact hi
      · rw [List.getElem?_append_right (by simpa using hi), List.getElem?_replicate] at e
        split at e <;> cases e
    have e2 : Ps[i]? = some P := by
      unfold G0 at e
      rw [List.getElem?_append_left (by simpa using hi), List.getElem?_map] at e
      cases q : Ps[i]? with
      | none => rw [q] at e; cases e
      | some a => rw [q] at e; cases e; rfl
    obtain ⟨v, h1, h2⟩ := r.get e2
    refine ⟨v, ?_, h2⟩
    unfold L2.start
    rw [List.getElem?_append_left (by rw [List.length_map, r.length]; exact hi), List.getElem?_map, h1]
    rfl
section
variable {P : Program} {w : World} {K : PySem.W.Frag} {mg : Str → Option Value} {base : Heap} {name qual : Str} {params : Arguments} {body : List Stmt} {scope : Scope} {dvs : List V} {kws : List (Str × V)} {f : Addr} {fd : FuncData} {N ps : List Str} {k : Nat}
/-- the context of a def's body -/
abbrev cX (P : Program) (w : World) (K : PySem.W.Frag) (mg : Str → Option Value) (base : Heap) (N : List Str) (qual : Str) (scope : Scope) (f : Addr) (cd : Value) (A : Around) (outer : List Env) (s : Shared) (H : Hp) (E : XK) : Cx := (cxOf CX0 P w K mg base N qual scope f cd A outer s H E).nox
theorem fn_ok {α : Type} {pre : α → Prop} {Ar : α → List MP} {R : α → MP} (F : FunD K name qual params body scope dvs kws f fd) (S : FnScope N ps scope) (nN : Asn) (hl : ∀ x, (Ar x).length = ps.length)
    (hn : ∀ x, pre x → ∀ B0 H0 σ H, nN.p B0 H0 σ H → (retV (R x) .non).p B0 H0 σ H)
    (hb : ∀ (cdv : Value) (A : Around) (outer : List Env) (s : Shared) (H : Hp) (E : XK), Room k (A.deeper (envOfC qual scope s.heap.objs.size f cdv)) → ∀ x, pre x →
      SXs (cX P w K mg base N qual scope f cdv A outer s H E) body (as (G0 (Ar x) N.length) none) nN noA noA (retV (R x))) : FnOk P w K mg base CX0 (k + 1) f fd ps (spF pre Ar R) := by
  refine F.ok S (fun vs H Q E ⟨x, B, hx, hB, r, _⟩ => r.length.trans (hl x)) (fun cdv A outer s H vs Q E hr ⟨x, B, hx, hB, r, q⟩ => ?_)
  obtain ⟨t, p, g⟩ := hb cdv A outer s H E hr x hx
  refine ⟨t, p.nox, g B H _ H _ ⟨B, .refl B H, start_good hB r, fun _ _ e => by cases e⟩ ⟨fun σ H' a => ?_, fun _ _ z => z, fun _ _ z => z, fun v σ H' ⟨B', b, sb, rv⟩ => q v B' H' (b.toStp sb) rv⟩⟩
  obtain ⟨B', b, sb, rv⟩ := hn x hx _ _ _ _ a
  exact q .non B' H' (b.toStp sb) rv
/-- a def that always returns -/
theorem fn_okR {α : Type} {pre : α → Prop} {Ar : α → List MP} {R : α → MP} (F : FunD K name qual params body scope dvs kws f fd) (S : FnScope N ps scope) (hl : ∀ x, (Ar x).length = ps.length)
    (hb : ∀ (cdv : Value) (A : Around) (outer : List Env) (s : Shared) (H : Hp) (E : XK), Room k (A.deeper (envOfC qual scope s.heap.objs.size f cdv)) → ∀ x, pre x →
      SXs (cX P w K mg base N qual scope f cdv A outer s H E) body (as (G0 (Ar x) N.length) none) noA noA noA (retV (R x))) : FnOk P w K mg base CX0 (k + 1) f fd ps (spF pre Ar R) :=
  fn_ok F S noA hl (fun x hx _ _ _ _ z => z.elim) hb
/-- a procedure: it returns None -/
def noneA : Asn := ⟨fun B0 H0 σ H => ∃ B, Bs B0 H0 B H ∧ Same B H, fun b ⟨B, h1, h2⟩ => ⟨B, b.trans h1, h2⟩⟩
theorem as_noneA {Γ : Gm} {o : Option Own} : (as Γ o).le noneA := fun B0 H0 σ H ⟨B, b, g, _⟩ => ⟨B, b, g.sub⟩
theorem fn_okN {α : Type} {pre : α → Prop} {Ar : α → List MP} (F : FunD K name qual params body scope dvs kws f fd) (S : FnScope N ps scope) (hl : ∀ x, (Ar x).length = ps.length)
    (hb : ∀ (cdv : Value) (A : Around) (outer : List Env) (s : Shared) (H : Hp) (E : XK), Room k (A.deeper (envOfC qual scope s.heap.objs.size f cdv)) → ∀ x, pre x →
      SXs (cX P w K mg base N qual scope f cdv A outer s H E) body (as (G0 (Ar x) N.length) none) noneA noA noA (retV (eqv .non))) : FnOk P w K mg base CX0 (k + 1) f fd ps (spF pre Ar fun _ => eqv .non) :=
  fn_ok F S noneA hl (fun x hx _ _ _ _ ⟨B, b, s⟩ => ⟨B, b, s, rfl⟩) hb
/-- a method that changes its object -/
theorem me_ok {α : Type} {C : Addr} {pre : α → Prop} {Ar : α → List MP} {F0 F1 : α → List (Str × MP)} {R : α → MP} (F : FunD K name qual params body scope dvs kws f fd) (S : FnScope N ps scope) (nN : Addr → α → Asn) (hl : ∀ x, (Ar x).length + 1 = ps.length)
    (hN : 0 < N.length) (hn : ∀ y x, pre x → ∀ B0 H0 σ H, (nN y x).p B0 H0 σ H → (retO (ownI y C 0 (F1 x)) (R x) .non).p B0 H0 σ H)
    (hb : ∀ (cdv : Value) (A : Around) (outer : List Env) (s : Shared) (H : Hp) (E : XK), Room k (A.deeper (envOfC qual scope s.heap.objs.size f cdv)) → ∀ y x, pre x →
      SXs (cX P w K mg base N qual scope f cdv A outer s H E) body (as ((G0 (anyV :: Ar x) N.length).set 0 none) (some (ownI y C 0 (F0 x)))) (nN y x) noA noA (retO (ownI y C 0 (F1 x)) (R x))) : FnOk P w K mg base CX0 (k + 1) f fd ps (spM C pre Ar F0 F1 R) := by
  refine F.ok S (fun vs H Q E ⟨a, B, x, r, u, e, ha, hB, hx, rr, _⟩ => ?_) (fun cdv A outer s H vs Q E hr ⟨a, B, x, r, u, e, ha, hB, hx, rr, hu, iu, q⟩ => ?_)
  · subst e
    show r.length + 1 = ps.length
    rw [rr.length]
    exact hl a
  · subst e
    obtain ⟨t, p, g⟩ := hb cdv A outer s H E hr x a ha
    have fin : ∀ v σ H', (retO (ownI x C 0 (F1 a)) (R a) v).p B (cut1 H (some x)) σ H' → Q v H' := fun v σ H' ⟨Γ, B', b, gd, fr, rv⟩ => by
      obtain ⟨l, u', e1, e2, e3, e4⟩ := gd.own _ rfl
      have el : l = x := e4.1
      subst el
      exact q v B' H' u' b gd.sub e2 e3 e4 rv
    have g0 : Good (G0 (anyV :: Ar a) N.length) none (L2.start N (.ref x :: r)) B H := start_good hB ⟨trivial, rr⟩
    have hlen : 0 < (L2.start N (.ref x :: r)).length := by rw [g0.len]; unfold G0; simp
    have hs0 : (L2.start N (.ref x :: r))[0]? = some (some (.ref x)) := rfl
    refine ⟨t, p.nox, g B (cut1 H (some x)) _ H _ ?_ ⟨fun σ H' a' => fin .non σ H' (hn x a ha _ _ _ _ a'), fun _ _ z => z, fun _ _ z => z, fun v σ H' r' => fin v σ H' r'⟩⟩
    refine ⟨B, ⟨Same.refl _, fun b o e => ?_, fun l o e n => by rw [n] at e; cases e⟩, ⟨hB, by rw [List.length_set]; exact g0.len, fun i Q e => ?_, fun w2 e => ?_⟩, fun w2 l e q2 => ?_⟩
    · unfold cut1 at e
      split at e
      · cases e
      · exact e
    · by_cases z : 0 = i
      · subst z
        rw [List.getElem?_set_self (by rw [← g0.len]; exact hlen)] at e
        cases e
      · rw [List.getElem?_set_ne z] at e
        exact g0.val i Q e
    · cases e
      exact ⟨x, u, hs0, hx, hu, iu⟩
    · cases e
      have q3 : (L2.start N (.ref x :: r))[0]? = some (some (.ref l)) := q2
      rw [hs0] at q3
      cases q3
      exact cut1_none rfl
theorem as_retO {Γ : Gm} {w : Own} {R : MP} (h : ∀ B, R.p B .non) : ∀ B0 H0 σ H, (as Γ (some w)).p B0 H0 σ H → (retO w R .non).p B0 H0 σ H := fun B0 H0 σ H ⟨B, b, g, o⟩ => ⟨Γ, B, b, g, fun l q => o w l rfl q, h B⟩
end
/-! ### calls -/
section
variable {X : Cx} {Γ : Gm} {o : Option Own} {e : Expr} {es : List Expr} {As Ds : List MP} {pos p apos : Pos} {x m : Str} {f : Addr} {fd : FuncData} {ps : List Str} {k : Nat} {α : Type} {pre : α → Prop} {A : α → List MP} {R : α → MP} {dvs : List V} {ds : List Value}
theorem x_call (F : FnOk X.prog X.w X.K X.mg X.base CX0 k f fd ps (spF pre A R)) (hr : Room k X.A) (hm : X.mg x = some (.ref f)) (hk : PySem.W.keepIn X.K (.ref f) = true) (hb : Binds X.K fd ps ds) (hd : Vals dvs ds) (hD : AllR Ds (fun _ => none) dvs)
    (a : α) (ha : pre a) (h : PAX X (e :: es) Γ o As) (hA : As ++ Ds = A a) (hg : Gl X x := by rfl) (hdb : (x == ("__debug__" : Str)) = false := by decide)
    (he : starEach (e :: es) X.env = (false, eval e X.env) :: starEach es X.env := by rfl) (hpl : (backTo pos (starEach es X.env)).any (·.1) = false := by rfl) : PX X (.Call (.Name x p) (e :: es) [] pos) Γ o (R a) := by
  obtain ⟨t, pp, g⟩ := h
  refine ⟨_, pe_call F hr hg hm hk hb hd pass0 pp hdb he hpl, fun σ B H Q gd q => g σ B H _ gd fun vs B1 H1 s1 rv => ?_⟩
  refine ⟨a, B1, ha, s1.bh, ?_, fun v B2 H2 s2 r2 => q v B2 H2 (s1.trans s2) r2⟩
  rw [← hA]
  exact rv.append (hD.mono fun _ _ e => by cases e)
theorem x_meth {C : Addr} {fs : List (Str × MP)} {e1 : Expr} (c : Cls X.K C) (hm : Meth X.K C m f) (F : FnOk X.prog X.w X.K X.mg X.base CX0 k f fd ps (spF pre A R)) (hr : Room k X.A) (hb : Binds X.K fd ps []) (hf : fs.lookup m = none)
    (a : α) (ha : pre a) (ho : PX X e Γ o (insOf C fs)) (h : PAX X (e1 :: es) Γ o As) (hA : insOf C fs :: As = A a) {pl : Sem Bool}
    (ht : eval (.Call (.Attribute e m apos) (e1 :: es) [] pos) X.env = (do
      let ov ← eval e X.env
      standAt apos.atName
      let (f, first) ← holding [ov] (getMethod ov m pl)
      callWith pos f first (backTo pos (starEach (e1 :: es) X.env)) (backToKw pos (keywordEach [] X.env))) := by rfl)
    (hpl : (backTo pos (starEach es X.env)).any (·.1) = false := by rfl) (he : starEach (e1 :: es) X.env = (false, eval e1 X.env) :: starEach es X.env := by rfl) : PX X (.Call (.Attribute e m apos) (e1 :: es) [] pos) Γ o (R a) := by
  obtain ⟨t0, p0, g0⟩ := ho
  obtain ⟨t, pp, g⟩ := h
  refine ⟨_, pe_meth (pl := pl) p0 c hm F hr hb .nil pass0 pp he hpl ht, fun σ B H Q gd q => g0 σ B H _ gd fun v B1 H1 s1 ⟨z, dx, vs, h1, h2, h3, h4⟩ => ?_⟩
  refine ⟨z, dx, vs, h1, s1.bh _ _ h2, fld_none h3 hf, g σ B1 H1 _ (gd.stp s1) fun us B2 H2 s2 r2 => ?_⟩
  refine ⟨a, B2, ha, s2.bh, ?_, fun v B3 H3 s3 r3 => q v B3 H3 ((s1.trans s2).trans s3) r3⟩
  rw [← hA, List.append_nil, h1]
  exact ⟨⟨z, dx, vs, rfl, s2.bb _ _ h2, h3, h4.mono s2.bb⟩, r2⟩
/-- the fields stored by __init__ -/
def newI {α : Type} (C : Addr) (F1 : α → List (Str × MP)) (a : α) : MP := insOf C (F1 a)
theorem make_core {F1 : α → List (Str × MP)} {C y dx : Addr} {vs : List V} {B1 H1 : Hp} {Q : VK} {E : XK} (a : α) (ha : pre a) (h11 : Same B1 H1) (hy : H1 y = none) (hdx : H1 dx = none) (hne : dx ≠ y) (rv : AllR (A a) B1 vs)
    (q : ∀ B2 H2 u, Bs B1 H1 B2 H2 → Same B2 H2 → B2 y = none → H2 y = some u → (ownI y C 0 (F1 a)).p y B2 u → Q .non H2) :
    spM C pre A (fun _ => []) F1 (fun _ => eqv .non) (.ref y :: vs) (upd (upd H1 dx (.own y)) y (.ins C dx [])) (fun v H2 => v = .non ∧ Q .non H2) E := by
  have sm : ∀ b o, H1 b = some o → (upd (upd H1 dx (.own y)) y (.ins C dx [])) b = some o := fun b o e => by
    rw [upd_ne (ne_of_none e hy), upd_ne (ne_of_none e hdx)]; exact e
  refine ⟨a, B1, y, vs, .ins C dx [], rfl, ha, h11.trans sm, h11.free hy, rv, upd_same, ⟨rfl, dx, [], rfl, rfl, trivial⟩, fun v B' H' u' b sb n hu iu rv' => ⟨rv', ?_⟩⟩
  refine q B' H' u' ⟨b.bb, fun c z e => b.hh _ _ ?_, fun l z e n2 => ?_⟩ sb n hu iu
  · unfold cut1
    rw [if_neg (by intro w; cases w; rw [hy] at e; cases e)]
    exact sm _ _ e
  · have e2 := b.fr l z e n2
    unfold cut1 at e2
    split at e2
    · rename_i w
      cases w
      exact hy
    · cases w : H1 l with
      | none => rfl
      | some z2 =>
        rw [sm _ _ w] at e2
        cases e2
/-- C(e, ..): the new object as data -/
theorem x_make {F1 : α → List (Str × MP)} {C : Addr} (M : Mk X.K C f) (F : FnOk X.prog X.w X.K X.mg X.base CX0 k f fd ps (spM C pre A (fun _ => []) F1 fun _ => eqv .non)) (hr : Room (k + 1) X.A) (hm : X.mg x = some (.ref C)) (hb : Binds X.K fd ps ds) (hd : Vals dvs ds) (hD : AllR Ds (fun _ => none) dvs)
    (a : α) (ha : pre a) (h : PAX X (e :: es) Γ o As) (hA : As ++ Ds = A a) (hg : Gl X x := by rfl) (hdb : (x == ("__debug__" : Str)) = false := by decide)
    (he : starEach (e :: es) X.env = (false, eval e X.env) :: starEach es X.env := by rfl) (hpl : (backTo pos (starEach es X.env)).any (·.1) = false := by rfl) : PX X (.Call (.Name x p) (e :: es) [] pos) Γ o (insOf C (F1 a)) := by
  obtain ⟨t, pp, g⟩ := h
  refine ⟨_, pe_make M F hr hg hm hb hd pass0 pp hdb he hpl, fun σ B H Q gd q => g σ B H _ gd fun vs B1 H1 s1 rv => fun y dx hy hdx hne => ?_⟩
  have rv2 : AllR (A a) B1 (vs ++ dvs) := by rw [← hA]; exact rv.append (hD.mono fun _ _ e => by cases e)
  refine make_core (Q := fun _ H2 => Q (.ref y) H2) a ha s1.bh hy hdx hne rv2 fun B2 H2 u b sb n hu ⟨_, dx2, fs, e1, e2, e3⟩ => ?_
  subst e1
  have sB : Same B2 (upd B2 y (.ins C dx2 fs)) := fun c z e => by rw [upd_ne (ne_of_none e n)]; exact e
  refine q _ (upd B2 y (.ins C dx2 fs)) H2 ⟨s1.bb.trans (b.bb.trans sB), fun c z e => ?_, s1.hh.trans b.hh, fun l z e n2 => ?_⟩ ⟨y, dx2, fs, rfl, upd_same, e2, e3.mono sB⟩
  · by_cases w : c = y
    · subst w; rw [upd_same] at e; cases e; exact hu
    · rw [upd_ne w] at e; exact sb _ _ e
  · by_cases w : l = y
    · subst w; exact s1.hh.free hy
    · rw [upd_ne w] at e
      have b2 : Bs B H B2 H2 := (⟨s1.bb, s1.hh, s1.fr⟩ : Bs B H B1 H1).trans b
      exact b2.fr l z e n2
/-- x = C(e, ..): the new object is the def's own -/
theorem sx_make {F1 : α → List (Str × MP)} {C : Addr} {Bk Ct : Asn} {Rt : Ret} {nm : Str} {npos spos : Pos} (i : Nat) (nd : X.N.Nodup) (M : Mk X.K C f) (F : FnOk X.prog X.w X.K X.mg X.base CX0 k f fd ps (spM C pre A (fun _ => []) F1 fun _ => eqv .non)) (hr : Room (k + 1) X.A) (hm : X.mg x = some (.ref C)) (hb : Binds X.K fd ps ds) (hd : Vals dvs ds) (hD : AllR Ds (fun _ => none) dvs)
    (a : α) (ha : pre a) (h : PAX X (e :: es) Γ none As) (hA : As ++ Ds = A a) (hg : Gl X x := by rfl) (hdb : (x == ("__debug__" : Str)) = false := by decide)
    (he : starEach (e :: es) X.env = (false, eval e X.env) :: starEach es X.env := by rfl) (hpl : (backTo pos (starEach es X.env)).any (·.1) = false := by rfl)
    (hi : X.N[i]? = some nm := by rfl) (hx : Loc X.env.scope nm := by first | exact Or.inl rfl | exact Or.inr rfl) (hl : i < Γ.length := by exact Nat.lt_of_succ_le (Nat.le_of_ble_eq_true rfl)) (hs : swapsWith (.Call (.Name x p) (e :: es) [] pos) (some (.Name nm npos)) spos.line X.env = pure false := by rfl)
    (hf : X.fn nm = true ∨ X.env.scope.names.lookup nm = some .local := by first | exact .inl rfl | exact .inr rfl) :
    SX X (.Assign [.Name nm npos] (.Call (.Name x p) (e :: es) [] pos) spos) (as Γ none) (exA (fun _ : Addr => True) fun y => as (Γ.set i none) (some (ownI y C i (F1 a)))) Bk Ct Rt := by
  obtain ⟨t, pp, g⟩ := h
  refine ⟨_, ps_set (i := i) nd hi hx (pe_make M F hr hg hm hb hd pass0 pp hdb he hpl) hs hf, fun B0 H0 σ H D ⟨B, b0, gd, ow⟩ d => g σ B H _ gd fun vs B1 H1 s1 rv => fun y dx hy hdx hne => ?_⟩
  have rv2 : AllR (A a) B1 (vs ++ dvs) := by rw [← hA]; exact rv.append (hD.mono fun _ _ e => by cases e)
  refine make_core (Q := fun _ H2 => gName i (.ref y) σ H2 D.nx) a ha s1.bh hy hdx hne rv2 fun B2 H2 u b sb n hu iu => ?_
  refine d.nx _ _ ⟨y, trivial, B2, (b0.stp s1).trans b, ?_, fun w l e q => ?_⟩
  · have g1 := gd.stp s1
    refine ⟨sb, by rw [List.length_set, List.length_set]; exact g1.len, fun j Q e => ?_, fun w e => ?_⟩
    · by_cases z : i = j
      · subst z
        rw [List.getElem?_set_self hl] at e
        cases e
      · rw [List.getElem?_set_ne z] at e ⊢
        obtain ⟨v, q1, q2⟩ := g1.val j Q e
        exact ⟨v, q1, Q.mono b.bb q2⟩
    · cases e
      exact ⟨y, u, List.getElem?_set_self (by rw [g1.len]; exact hl), n, hu, iu⟩
  · cases e
    have q2 : some (some (V.ref y)) = some (some (V.ref l)) := (List.getElem?_set_self (by rw [gd.len]; exact hl)).symm.trans q
    cases q2
    exact (b0.stp s1).hh.free hy
end
/-! ### the own object -/
def putM (f : Str) (P : MP) : List (Str × MP) → List (Str × MP)
  | [] => [(f, P)]
  | (g, x) :: r => if g = f then (g, P) :: r else (g, x) :: putM f P r
theorem putM_ok {B : Hp} {f : Str} {P : MP} {v : V} (hv : P.p B v) : ∀ {fs : List (Str × MP)} {vs : List (Str × V)}, vs.map Prod.fst = fs.map Prod.fst → AllR (fs.map Prod.snd) B (vs.map Prod.snd) →
    (putF f v vs).map Prod.fst = (putM f P fs).map Prod.fst ∧ AllR ((putM f P fs).map Prod.snd) B ((putF f v vs).map Prod.snd)
  | [], [], _, _ => ⟨rfl, hv, trivial⟩
  | [], _ :: _, h, _ => by cases h
  | _ :: _, [], h, _ => by cases h
  | (g, Q) :: fs, (g', u) :: vs, h, a => by
    have h1 : g' = g ∧ vs.map Prod.fst = fs.map Prod.fst := by simpa using h
    obtain ⟨rfl, h2⟩ := h1
    have a2 : Q.p B u ∧ AllR (fs.map Prod.snd) B (vs.map Prod.snd) := a
    unfold putF putM
    by_cases q : g' = f
    · rw [if_pos q, if_pos q]
      exact ⟨by simpa using h2, hv, a2.2⟩
    · rw [if_neg q, if_neg q]
      obtain ⟨k1, k2⟩ := putM_ok hv h2 a2.2
      exact ⟨by simpa using k1, a2.1, k2⟩
section
variable {X : Cx} {Γ : Gm} {e : Expr} {pos pos' np : Pos} {y C : Addr} {i : Nat} {fs : List (Str × MP)} {P : MP} {f x : Str} {Bk Ct N : Asn} {R : Ret}
theorem sx_fld (c : Cls X.K C) (n : NoAttr X.K C f) (he : PX X e Γ (some (ownI y C i fs)) P) (hl : fs.length < 1000 := by decide) (hN : X.N[i]? = some x := by rfl) (hv : Vis X.env.scope x := by first | exact Or.inl rfl | exact Or.inr (Or.inl rfl))
    (hd : (x == ("__debug__" : Str)) = false := by decide) (hcd : (x == ("__classdict__" : Str)) = false := by decide) (hs : swapsWith e (some (.Attribute (.Name x np) f pos')) pos.line X.env = pure false := by rfl) :
    SX X (.Assign [.Attribute (.Name x np) f pos'] e pos) (as Γ (some (ownI y C i fs))) (as Γ (some (ownI y C i (putM f P fs)))) Bk Ct R := by
  obtain ⟨t, p, g⟩ := he
  refine ⟨_, ps_fld (pe_var (i := i) hN hv hd hcd) p hs, fun B0 H0 σ H D ⟨B, b, gd, ow⟩ d => g σ B H _ gd fun v B1 H1 s1 hv => ?_⟩
  obtain ⟨l, u, e1, e2, e3, e4⟩ := (gd.stp s1).own _ rfl
  obtain ⟨el, dx, vs, rfl, h3, h4⟩ := e4
  have h5 : vs.length = fs.length := by simpa using congrArg List.length h3
  refine ⟨.ref l, e1, l, C, dx, vs, rfl, e3, c, n, by omega, d.nx _ _ ?_⟩
  obtain ⟨k1, k2⟩ := putM_ok hv h3 h4
  exact own_upd (w := ownI y C i fs) (b.stp s1) (gd.stp s1) (ow _ l rfl e1) e1 e2 rfl ⟨el, dx, _, rfl, k1, k2⟩
theorem x_ofld (c : Cls X.K C) (n : NoAttr X.K C f) (hf : fs.lookup f = some P) (hN : X.N[i]? = some x := by rfl) (hv : Vis X.env.scope x := by first | exact Or.inl rfl | exact Or.inr (Or.inl rfl) | exact Or.inr (Or.inr rfl))
    (hd : (x == ("__debug__" : Str)) = false := by decide) (hcd : (x == ("__classdict__" : Str)) = false := by decide) (hb : attributeBase (.Name x np) f X.env (eval (.Name x np) X.env) = eval (.Name x np) X.env := by rfl) :
    PX X (.Attribute (.Name x np) f pos) Γ (some (ownI y C i fs)) P := by
  refine ⟨_, pe_fld (pe_var (i := i) hN hv hd hcd) hb, fun σ B H Q gd k => ?_⟩
  obtain ⟨l, u, e1, e2, e3, e4⟩ := gd.own _ rfl
  obtain ⟨el, dx, vs, rfl, h3, h4⟩ := e4
  obtain ⟨z, q1, q2⟩ := fld_of h3 h4 hf
  exact ⟨.ref l, e1, l, C, dx, vs, z, rfl, e3, c, n, q1, k z B H (.refl gd.sub) q2⟩
/-! ### the own list, read -/
variable {α : Type} [Rep α] {xs : List α} {z : Int}
theorem x_olen {p : Pos} (hm : X.mg "len" = none) (hN : X.N[i]? = some x := by rfl) (hv : Vis X.env.scope x := by first | exact Or.inl rfl | exact Or.inr (Or.inl rfl)) (hg : Gl X "len" := by rfl)
    (hd : (x == ("__debug__" : Str)) = false := by decide) (hcd : (x == ("__classdict__" : Str)) = false := by decide) (hs : starEach [.Name x np] X.env = (false, eval (.Name x np) X.env) :: starEach [] X.env := by rfl) (hpl : (backTo pos (starEach [] X.env)).any (·.1) = false := by rfl) :
    PX X (.Call (.Name "len" p) [.Name x np] [] pos) Γ (some (ownL X.K i xs)) (is X.K (xs.length : Int)) := by
  refine ⟨_, pe_callB call_len_seq hg hm PySem.boot_len (pa_cons (pe_var (i := i) hN hv hd hcd) pa_nil hs) (by decide) (by decide) hs hpl, fun σ B H Q gd k => ?_⟩
  obtain ⟨l, u, e1, e2, e3, vs, rfl, h4⟩ := gd.own _ rfl
  refine ⟨.ref l, e1, l, vs, rfl, .inl (SqL.of e3), k _ B H (.refl gd.sub) ?_⟩
  show V.int _ = V.int _
  rw [h4.length, List.length_map]
theorem x_oix {b : Expr} {n : Nat} {a : α} (hi : PX X b Γ (some (ownL X.K i xs)) (is X.K z)) (hz : ixN xs.length z = some n) (ha : xs[n]? = some a) (hN : X.N[i]? = some x := by rfl) (hv : Vis X.env.scope x := by first | exact Or.inl rfl | exact Or.inr (Or.inl rfl))
    (hd : (x == ("__debug__" : Str)) = false := by decide) (hcd : (x == ("__classdict__" : Str)) = false := by decide) (hs : PlainIx b := by intro _ _; rfl) : PX X (.Subscript (.Name x np) b pos) Γ (some (ownL X.K i xs)) (is X.K a) := by
  obtain ⟨tb, pb, rb⟩ := hi
  refine ⟨_, pe_ix ix_list (pe_var (i := i) hN hv hd hcd) pb hs, fun σ B H Q gd k => ?_⟩
  obtain ⟨l, u, e1, e2, e3, vs, rfl, h4⟩ := gd.own _ rfl
  refine ⟨.ref l, e1, rb σ B H _ gd fun v B2 H2 s2 e5 => ?_⟩
  obtain ⟨w, hw, rw'⟩ := h4.get (i := n) (P := is X.K a) (by rw [List.getElem?_map, ha]; rfl)
  have hx : atI vs z = some w := by
    unfold atI
    rw [h4.length, List.length_map, hz]
    exact hw
  exact ⟨l, vs, z, w, rfl, e5, SqL.of (s2.hh _ _ e3), hx, k w B2 H2 s2 ((is X.K a).mono s2.bb rw')⟩
/-- xs[k] = e -/
theorem sx_oset {b : Expr} {n : Nat} {a : α} (he : PX X e Γ (some (ownL X.K i xs)) (is X.K a)) (hi : PX X b Γ (some (ownL X.K i xs)) (is X.K z)) (hz : ixN xs.length z = some n) (hN : X.N[i]? = some x := by rfl) (hv : Vis X.env.scope x := by first | exact Or.inl rfl | exact Or.inr (Or.inl rfl))
    (hd : (x == ("__debug__" : Str)) = false := by decide) (hcd : (x == ("__classdict__" : Str)) = false := by decide)
    (ha : ∀ v, assign (.Subscript (.Name x np) b pos') X.env v = (do
      let ov ← holding [v] (eval (.Name x np) X.env)
      let iv ← holding [v, ov] (eval b X.env)
      standAt pos'
      holding [v, ov, iv] (setItem ov iv v)
      release [v, ov, iv] []) := by intro _; rfl)
    (hs : swapsWithSole [.Subscript (.Name x np) b pos'] e pos.line X.env = pure false := by rfl) (hw : swappedStores [.Subscript (.Name x np) b pos'] e X.env = pure none := by rfl) (h1 : (assignEach [.Subscript (.Name x np) b pos'] X.env).map (·.2) = [assign (.Subscript (.Name x np) b pos') X.env] := by rfl) :
    SX X (.Assign [.Subscript (.Name x np) b pos'] e pos) (as Γ (some (ownL X.K i xs))) (as Γ (some (ownL X.K i (xs.set n a)))) Bk Ct R := by
  obtain ⟨t, p, g⟩ := he
  obtain ⟨tb, pb, rb⟩ := hi
  refine ⟨_, ps_asg p (pg_sub (pe_var (i := i) hN hv hd hcd) pb set_list ha) hs hw h1, fun B0 H0 σ H D ⟨B, b, gd, ow⟩ d => g σ B H _ gd fun v B1 H1 s1 hv => ?_⟩
  obtain ⟨l, u, e1, e2, e3, vs, rfl, h4⟩ := gd.own _ rfl
  refine ⟨.ref l, e1, rb σ B1 H1 _ (gd.stp s1) fun v2 B2 H2 s2 e5 => ?_⟩
  have s3 := s1.trans s2
  obtain ⟨l', u', q1, q2, q3, vs', rfl, q4⟩ := (gd.stp s3).own _ rfl
  have q1' : σ[i]? = some (some (.ref l')) := q1
  have e1' : σ[i]? = some (some (.ref l)) := e1
  rw [e1'] at q1'
  cases q1'
  refine ⟨l, vs', z, n, rfl, e5, q3, ?_, d.nx _ _ ?_⟩
  · rw [q4.length, List.length_map]; exact hz
  · refine own_upd (w := ownL X.K i xs) (b.stp s3) (gd.stp s3) (ow _ l rfl e1) e1 q2 rfl ⟨vs'.set n v, rfl, ?_⟩
    rw [List.map_set]
    exact q4.set ((is X.K a).mono s2.bb hv) n
end
end L3
set_option maxHeartbeats 400000
/-! max of three, isqrt; the logic's rules for built-ins. -/
namespace L3
open PySem PySem.Spec PyProof.Rows L2
section
variable {prog : Program} {w : World} {A : Around} {E : Value → Shared → Prop} {s : Shared}
theorem args_max3 (a b c : Value) : argsOk "max" ⟨[a, b, c], []⟩ := by unfold argsOk; kernel_rfl
theorem call_max_three {a b c : Value} {Q : Value → Shared → Prop}
    (h : wpAny (model prog w) A.in1 (pyIter (.ref s.heap.objs.size)) (fun it s₂ => ∃ I fp wr n P St bt, it = .ref I ∧ Walks prog w A.in1 I fp wr n P St ∧ St 0 s₂.heap ∧ (∀ b ∈ fp, b < s₂.heap.objs.size) ∧ 0 < n ∧ CmpOf prog w A.in1 .Gt P bt ∧
      ∀ v h' tk, P (argBest bt (n - 1)) v → (∀ b o, b ∉ wr → s₂.heap.get? b = some o → h'.get? b = some o) → Q v { s₂ with heap := h', toks := tk }) E
      { s with heap := s.heap.push { cls := .type "tuple", data := .seq #[a, b, c] } }) :
    wpAny (model prog w) A (call (.builtin "max") [a, b, c]) Q E s := by
  have hname : (toString "max" ++ toString ".loop" : String) = "max.loop" := by decide
  refine call_function_tree F.kind_max F.plain_max F.entry_max (args_max3 _ _ _) ?_
  show wpAny _ A.in1 (Builtin.Builtins.bindParams "max" ["key", "default"] 0 ⟨[], []⟩ >>= _) _ _ s
  refine wpAny_bind (wpAny_of_eq (show Builtin.Builtins.bindParams "max" ["key", "default"] 0 ⟨[], []⟩ = pure [none, none] from rfl) ?_)
  show wpAny _ A.in1 (newTuple [a, b, c] >>= _) _ _ s
  refine wpAny_bind (wpAny_newObj_type ?_)
  refine wpAny_bind (wpAny_mono h (fun it s₂ h₂ => ?_) fun _ _ e => e)
  obtain ⟨I, fp, wr, n, P, St, bt, rfl, W, hst, hfp, hn, hcmp, hQ⟩ := h₂
  refine wpAny_bind (wpAny_newObj_type ?_)
  have hSf : s₂.heap.objs.size ∉ fp := fun hm => Nat.lt_irrefl _ (hfp _ hm)
  rw [hname]
  refine wpAny_pure ⟨plainId_quiet F.plain_max_loop _, codeAny_max_loop_first W bt hcmp s₂.heap.objs.size hSf hn (W.frame _ _ _ hst fun b _ o e => Heap.get?_push_of_some _ e) (Heap.get?_push_size _ rfl) fun v h' tk hP hk => ?_⟩
  exact hQ v h' tk hP fun b o hbw e => hk b o hbw (Nat.ne_of_lt (Heap.lt_size e)) (Heap.get?_push_of_some _ e)
theorem max_three_ints {a b c : Int} {t u v : Tok} {Q : Value → Shared → Prop} (hh : A.handled = none)
    (h : ∀ h' tk t', (∀ c o, s.heap.get? c = some o → h'.get? c = some o) → Q (.int (max (max a b) c) t') { s with heap := h', toks := tk }) :
    wpAny (model prog w) A (call (.builtin "max") [.int a t, .int b u, .int c v]) Q E s := by
  have hT : (s.heap.push { cls := .type "tuple", data := .seq #[.int a t, .int b u, .int c v] }).IsTuple s.heap.objs.size (intItems #[(a, t), (b, u), (c, v)]) := ⟨_, Heap.get?_push_size _ rfl, rfl, 0, by simp [intItems]⟩
  refine call_max_three (wpAny_pyIter_tuple hT ?_)
  have hsz : (s.heap.push { cls := .type "tuple", data := .seq #[.int a t, .int b u, .int c v] }).objs.size = s.heap.objs.size + 1 := Heap.size_push ..
  refine ⟨_, [_, s.heap.objs.size], [_], _, _, _, _, rfl, Walks.tuple (A := A.in1) hh _ s.heap.objs.size (by rw [hsz]; exact Nat.ne_of_lt (Nat.lt_succ_self _)) (intItems #[(a, t), (b, u), (c, v)]),
    ⟨⟨_, Heap.get?_push_size _ rfl, rfl, rfl⟩, hT.push _⟩, fun c hc => ?_, by simp [intItems], CmpOf.ints_gt (numAt #[(a, t), (b, u), (c, v)]) (fun _ _ => intItems_at), fun z h' tk hP hk => ?_⟩
  · show c < ((s.heap.push _).push _).objs.size
    rw [Heap.size_push, hsz]
    rcases List.mem_cons.mp hc with rfl | hc
    · rw [hsz]; exact Nat.lt_succ_self _
    · rcases List.mem_cons.mp hc with rfl | hc
      · exact Nat.lt_succ_of_lt (Nat.lt_succ_self _)
      · cases hc
  · have hold : ∀ c o, s.heap.get? c = some o → h'.get? c = some o := fun c o e => by
      refine hk c o (fun hm => ?_) (Heap.get?_push_of_some _ (Heap.get?_push_of_some _ e))
      rcases List.mem_cons.mp hm with e1 | hm
      · have := Heap.lt_size e; rw [e1, hsz] at this; exact Nat.lt_irrefl _ (Nat.lt_of_succ_lt this)
      · cases hm
    have hsz2 : (intItems #[(a, t), (b, u), (c, v)]).size - 1 = 2 := by simp [intItems]
    rw [hsz2] at hP
    have hv : ∃ t', z = Value.int (max (max a b) c) t' := by
      by_cases h1 : b > a
      · by_cases h2 : c > b
        · have e : argBest (fun i j => decide (numAt #[(a, t), (b, u), (c, v)] i > numAt #[(a, t), (b, u), (c, v)] j)) 2 = 2 := by simp [argBest, numAt, h1, h2]
          rw [e] at hP
          have hz : Value.int c v = z := by simpa [intItems] using hP
          exact ⟨v, by rw [← hz, show max (max a b) c = c by omega]⟩
        · have e : argBest (fun i j => decide (numAt #[(a, t), (b, u), (c, v)] i > numAt #[(a, t), (b, u), (c, v)] j)) 2 = 1 := by simp [argBest, numAt, h1, h2]
          rw [e] at hP
          have hz : Value.int b u = z := by simpa [intItems] using hP
          exact ⟨u, by rw [← hz, show max (max a b) c = b by omega]⟩
      · by_cases h2 : c > a
        · have e : argBest (fun i j => decide (numAt #[(a, t), (b, u), (c, v)] i > numAt #[(a, t), (b, u), (c, v)] j)) 2 = 2 := by simp [argBest, numAt, h1, h2]
          rw [e] at hP
          have hz : Value.int c v = z := by simpa [intItems] using hP
          exact ⟨v, by rw [← hz, show max (max a b) c = c by omega]⟩
        · have e : argBest (fun i j => decide (numAt #[(a, t), (b, u), (c, v)] i > numAt #[(a, t), (b, u), (c, v)] j)) 2 = 0 := by simp [argBest, numAt, h1, h2]
          rw [e] at hP
          have hz : Value.int a t = z := by simpa [intItems] using hP
          exact ⟨t, by rw [← hz, show max (max a b) c = a by omega]⟩
    obtain ⟨t', rfl⟩ := hv
    exact h h' tk t' hold
end
theorem call_max3 {X : Cx} (hc : X.calm = true) : CallR X (.builtin "max") (fun xs H Q => ∃ i j k, xs = [.int i, .int j, .int k] ∧ Q (.int (max (max i j) k)) H) := by
  intro pins s σ H xs us Q I r h
  obtain ⟨i, j, k, rfl, q⟩ := h
  cases r with
  | cons r1 r =>
    cases r with
    | cons r2 r =>
      cases r with
      | cons r3 r =>
        cases r
        obtain ⟨t, rfl⟩ := r1
        obtain ⟨t', rfl⟩ := r2
        obtain ⟨t2, rfl⟩ := r3
        exact max_three_ints (I.ok.hd hc) fun h' tk t3 kp => ⟨.int (max (max i j) k), H, I.kept kp, ⟨_, rfl⟩, q⟩
/-- the integer root -/
def isq (n : Int) : Int := ((Float64.isqrt n.toNat : Nat) : Int)
theorem isq_spec {n : Int} (h : 0 ≤ n) : 0 ≤ isq n ∧ isq n * isq n ≤ n ∧ n < (isq n + 1) * (isq n + 1) := by
  obtain ⟨h1, h2⟩ := PySem.Float64.isqrt_spec n.toNat
  unfold isq
  refine ⟨Int.natCast_nonneg _, ?_, ?_⟩
  · have : ((Float64.isqrt n.toNat * Float64.isqrt n.toNat : Nat) : Int) ≤ (n.toNat : Int) := Int.ofNat_le.mpr h1
    rw [Int.natCast_mul] at this
    omega
  · have : (n.toNat : Int) < (((Float64.isqrt n.toNat + 1) * (Float64.isqrt n.toNat + 1) : Nat) : Int) := Int.ofNat_lt.mpr h2
    rw [Int.natCast_mul, Int.natCast_add] at this
    have e : ((1 : Nat) : Int) = 1 := rfl
    rw [e] at this
    omega
theorem call_isqrt {X : Cx} : CallR X (.builtin "math.isqrt") (fun xs H Q => ∃ n, xs = [.int n] ∧ 0 ≤ n ∧ n.natAbs < 2 ^ 9000 ∧ Q (.int (isq n)) H) := by
  intro pins s σ H xs us Q I r h
  obtain ⟨n, rfl, h0, h1, q⟩ := h
  obtain ⟨u, rfl, t, rfl⟩ := vals1 r
  have e : n.toNat = n.natAbs := by omega
  have h2 : n.toNat.log2 ≤ 8999 := by rw [e]; exact PySem.W.mg_log h1
  exact call_function_meets PySem.W.MGF.kind_isqrt PySem.W.MGF.plain_isqrt PySem.W.MGF.entry_isqrt (PySem.W.MGF.args_isqrt _) (PySem.W.mg_run_isqrt n t (by omega) (by omega) (by omega)).meets ⟨.int (isq n), H, I.tok _, ⟨_, rfl⟩, q⟩
section
variable {X : Cx} {x : Str} {p pos : Pos} {e : Expr} {es : List Expr} {t : TA} {id T : String} {r : List V → Hp → VK → Prop}
/-- a built-in function that the module has imported -/
theorem pe_callGB (hc : CallR X (.builtin id) r) (hg : Gl X x) (hm : X.mg x = some (.builtin id)) (ha : PA X (e :: es) t) (hdb : (x == ("__debug__" : Str)) = false := by decide)
    (he : starEach (e :: es) X.env = (false, eval e X.env) :: starEach es X.env := by rfl) (hpl : (backTo pos (starEach es X.env)).any (·.1) = false := by rfl) : PE X (.Call (.Name x p) (e :: es) [] pos) (tCB r t) := by
  refine ⟨fun pins s σ H Q I h => ?_⟩
  refine wpAny_Call_Name_kw (ld_glob I hg hm ?_ hdb)
  exact PyProof.Rows.callWith_builtin1 (thn (ha.run pos pins s σ H _ I h) fun us s1 ⟨vs, H1, I1, r1, q1⟩ => hc pins s1 σ H1 vs us Q I1 r1 q1) he hpl
end
section
variable {X : Cx} {Γ : Gm} {o : Option Own} {a b e : Expr} {es : List Expr} {P Q R : MP} {Ps Qs As : List MP} {i j k : Int} {pos p : Pos} {x : Str} {id T : String}
theorem x_bi {r : List V → Hp → VK → Prop} (hc : CallR X (.builtin id) r) (hm : X.mg x = none) (hv : bootBuiltins x = some (.builtin id)) (h : PAX X (e :: es) Γ o As) (hr : ∀ B H vs Q, Same B H → AllR As B vs → (∀ v B' H', Stp B H B' H' → R.p B' v → Q v H') → r vs H Q)
    (hg : Gl X x := by rfl) (hn : x ≠ "__name__" := by decide) (hdb : (x == ("__debug__" : Str)) = false := by decide)
    (he : starEach (e :: es) X.env = (false, eval e X.env) :: starEach es X.env := by rfl) (hpl : (backTo pos (starEach es X.env)).any (·.1) = false := by rfl) : PX X (.Call (.Name x p) (e :: es) [] pos) Γ o R := by
  obtain ⟨t, pp, f⟩ := h
  exact ⟨_, pe_callB hc hg hm hv pp hn hdb he hpl, fun σ B H Q g k => f σ B H _ g fun vs B1 H1 s1 rv => hr B1 H1 vs _ s1.bh rv fun v B2 H2 s2 r2 => k v B2 H2 (s1.trans s2) r2⟩
theorem x_bt {r : List V → Hp → VK → Prop} (hc : CallR X (.type T) r) (hm : X.mg x = none) (hv : bootBuiltins x = some (.type T)) (h : PAX X (e :: es) Γ o As) (hr : ∀ B H vs Q, Same B H → AllR As B vs → (∀ v B' H', Stp B H B' H' → R.p B' v → Q v H') → r vs H Q)
    (hg : Gl X x := by rfl) (hn : x ≠ "__name__" := by decide) (hdb : (x == ("__debug__" : Str)) = false := by decide)
    (he : starEach (e :: es) X.env = (false, eval e X.env) :: starEach es X.env := by rfl) (hpl : (backTo pos (starEach es X.env)).any (·.1) = false := by rfl) : PX X (.Call (.Name x p) (e :: es) [] pos) Γ o R := by
  obtain ⟨t, pp, f⟩ := h
  exact ⟨_, pe_callTy hc hg hm hv pp hn hdb he hpl, fun σ B H Q g k => f σ B H _ g fun vs B1 H1 s1 rv => hr B1 H1 vs _ s1.bh rv fun v B2 H2 s2 r2 => k v B2 H2 (s1.trans s2) r2⟩
theorem AllR.one {B : Hp} : ∀ {vs : List V}, AllR [P] B vs → ∃ v, vs = [v] ∧ P.p B v
  | [v], h => ⟨v, rfl, h.1⟩
  | [], h => h.elim
  | _ :: _ :: _, h => h.2.elim
theorem AllR.three {B : Hp} : ∀ {vs : List V}, AllR [P, Q, R] B vs → ∃ v u w, vs = [v, u, w] ∧ P.p B v ∧ Q.p B u ∧ R.p B w
  | [v, u, w], h => ⟨v, u, w, rfl, h.1, h.2.1, h.2.2.1⟩
  | [], h => h.elim
  | [_], h => h.2.elim
  | [_, _], h => h.2.2.elim
  | _ :: _ :: _ :: _ :: _, h => h.2.2.2.elim
/-- ints' values -/
theorem AllR.ints {K : Fg} {B : Hp} : ∀ {ns : List Int} {vs : List V}, AllR (ns.map (is K)) B vs → vs = ns.map V.int
  | [], [], _ => rfl
  | n :: ns, v :: vs, h => by
    have e : v = .int n := h.1
    rw [e, AllR.ints (ns := ns) (vs := vs) h.2]
    rfl
  | [], _ :: _, h => h.elim
  | _ :: _, [], h => h.elim
theorem ints_AllR {K : Fg} {B : Hp} : ∀ (ns : List Int), AllR (ns.map (is K)) B (ns.map V.int)
  | [] => trivial
  | n :: ns => ⟨rfl, ints_AllR ns⟩
theorem x_max2 (hm : X.mg "max" = none) (h : PAX X [a, b] Γ o [is X.K i, is X.K j]) (hc : X.calm = true := by rfl) (hg : Gl X "max" := by rfl) (he : starEach [a, b] X.env = (false, eval a X.env) :: starEach [b] X.env := by rfl) (hpl : (backTo pos (starEach [b] X.env)).any (·.1) = false := by rfl) :
    PX X (.Call (.Name "max" p) [a, b] [] pos) Γ o (is X.K (max i j)) :=
  x_bi (call_max2 hc) hm PyProof.Rows.boot_max h (fun B H vs Q s r k => by
    obtain ⟨v, u, rfl, rfl, rfl⟩ := r.two
    refine ⟨i, j, rfl, k _ B H (.refl s) ?_⟩
    show V.int _ = V.int _
    congr 1
    split <;> omega) hg (by decide) (by decide) he hpl
theorem x_max3 {c : Expr} (hm : X.mg "max" = none) (h : PAX X [a, b, c] Γ o [is X.K i, is X.K j, is X.K k]) (hc : X.calm = true := by rfl) (hg : Gl X "max" := by rfl) (he : starEach [a, b, c] X.env = (false, eval a X.env) :: starEach [b, c] X.env := by rfl) (hpl : (backTo pos (starEach [b, c] X.env)).any (·.1) = false := by rfl) :
    PX X (.Call (.Name "max" p) [a, b, c] [] pos) Γ o (is X.K (max (max i j) k)) :=
  x_bi (call_max3 hc) hm PyProof.Rows.boot_max h (fun B H vs Q s r q => by
    obtain ⟨v, u, w, rfl, rfl, rfl, rfl⟩ := r.three
    exact ⟨i, j, k, rfl, q _ B H (.refl s) rfl⟩) hg (by decide) (by decide) he hpl
theorem x_min2 (hm : X.mg "min" = none) (h : PAX X [a, b] Γ o [is X.K i, is X.K j]) (hc : X.calm = true := by rfl) (hg : Gl X "min" := by rfl) (he : starEach [a, b] X.env = (false, eval a X.env) :: starEach [b] X.env := by rfl) (hpl : (backTo pos (starEach [b] X.env)).any (·.1) = false := by rfl) :
    PX X (.Call (.Name "min" p) [a, b] [] pos) Γ o (is X.K (min i j)) :=
  x_bi (call_min2 hc) hm PyProof.Rows.boot_min h (fun B H vs Q s r k => by
    obtain ⟨v, u, rfl, rfl, rfl⟩ := r.two
    refine ⟨i, j, rfl, k _ B H (.refl s) ?_⟩
    show V.int _ = V.int _
    congr 1
    split <;> omega) hg (by decide) (by decide) he hpl
theorem x_minL {ns : List Int} {m : Int} (hm : X.mg "min" = none) (h : PAX X [a] Γ o [lstOf (ns.map (is X.K))]) (h1 : m ∈ ns) (h2 : ∀ y ∈ ns, m ≤ y) (hc : X.calm = true := by rfl) (hg : Gl X "min" := by rfl) (he : starEach [a] X.env = (false, eval a X.env) :: starEach [] X.env := by rfl) (hpl : (backTo pos (starEach [] X.env)).any (·.1) = false := by rfl) :
    PX X (.Call (.Name "min" p) [a] [] pos) Γ o (is X.K m) :=
  x_bi (cr_min hc) hm PyProof.Rows.boot_min h (fun B H vs Q s r k => by
    obtain ⟨v, rfl, q, us, rfl, e1, e2⟩ := r.one
    have e3 := e2.ints
    subst e3
    refine ⟨q, ns, rfl, SqL.of (s _ _ e1), List.length_pos_of_mem h1, fun m' g1 g2 => k _ B H (.refl s) ?_⟩
    have e : m' = m := by have := g2 m h1; have := h2 m' g1; omega
    rw [e]
    rfl) hg (by decide) (by decide) he hpl
theorem x_maxL {ns : List Int} {m : Int} (hm : X.mg "max" = none) (h : PAX X [a] Γ o [lstOf (ns.map (is X.K))]) (h1 : m ∈ ns) (h2 : ∀ y ∈ ns, y ≤ m) (hc : X.calm = true := by rfl) (hg : Gl X "max" := by rfl) (he : starEach [a] X.env = (false, eval a X.env) :: starEach [] X.env := by rfl) (hpl : (backTo pos (starEach [] X.env)).any (·.1) = false := by rfl) :
    PX X (.Call (.Name "max" p) [a] [] pos) Γ o (is X.K m) :=
  x_bi (cr_max hc) hm PyProof.Rows.boot_max h (fun B H vs Q s r k => by
    obtain ⟨v, rfl, q, us, rfl, e1, e2⟩ := r.one
    have e3 := e2.ints
    subst e3
    refine ⟨q, ns, rfl, SqL.of (s _ _ e1), List.length_pos_of_mem h1, fun m' g1 g2 => k _ B H (.refl s) ?_⟩
    have e : m' = m := by have := g2 m h1; have := h2 m' g1; omega
    rw [e]
    rfl) hg (by decide) (by decide) he hpl
theorem x_sumL {ns : List Int} (hm : X.mg "sum" = none) (h : PAX X [a] Γ o [lstOf (ns.map (is X.K))]) (hc : X.calm = true := by rfl) (hg : Gl X "sum" := by rfl) (he : starEach [a] X.env = (false, eval a X.env) :: starEach [] X.env := by rfl) (hpl : (backTo pos (starEach [] X.env)).any (·.1) = false := by rfl) :
    PX X (.Call (.Name "sum" p) [a] [] pos) Γ o (is X.K ns.sum) :=
  x_bi (cr_sum hc) hm PyProof.Rows.boot_sum h (fun B H vs Q s r k => by
    obtain ⟨v, rfl, q, us, rfl, e1, e2⟩ := r.one
    have e3 := e2.ints
    subst e3
    exact ⟨q, ns, rfl, SqL.of (s _ _ e1), k _ B H (.refl s) rfl⟩) hg (by decide) (by decide) he hpl
theorem x_abs (hm : X.mg "abs" = none) (h : PAX X [a] Γ o [is X.K i]) (hg : Gl X "abs" := by rfl) (he : starEach [a] X.env = (false, eval a X.env) :: starEach [] X.env := by rfl) (hpl : (backTo pos (starEach [] X.env)).any (·.1) = false := by rfl) :
    PX X (.Call (.Name "abs" p) [a] [] pos) Γ o (is X.K (if i < 0 then -i else i)) :=
  x_bi call_abs hm (by decide +kernel) h (fun B H vs Q s r k => by
    obtain ⟨v, rfl, rfl⟩ := r.one
    exact ⟨i, rfl, k _ B H (.refl s) rfl⟩) hg (by decide) (by decide) he hpl
theorem x_len {n : Nat} (hm : X.mg "len" = none) (h : PAX X [a] Γ o [R]) (hR : ∀ B v, R.p B v → ∃ q us, v = .ref q ∧ us.length = n ∧ (SqL X.K B q us ∨ SqT X.K B q us)) (hg : Gl X "len" := by rfl) (he : starEach [a] X.env = (false, eval a X.env) :: starEach [] X.env := by rfl) (hpl : (backTo pos (starEach [] X.env)).any (·.1) = false := by rfl) :
    PX X (.Call (.Name "len" p) [a] [] pos) Γ o (is X.K (n : Int)) :=
  x_bi call_len_seq hm PySem.boot_len h (fun B H vs Q s r k => by
    obtain ⟨v, rfl, e⟩ := r.one
    obtain ⟨q, us, rfl, e1, e2⟩ := hR B v e
    refine ⟨q, us, rfl, ?_, k _ B H (.refl s) ?_⟩
    · rcases e2 with e2 | e2
      · exact .inl (s.seq e2)
      · exact .inr (SqT_mono s e2)
    · show V.int _ = V.int _
      rw [e1]) hg (by decide) (by decide) he hpl
theorem x_lenT {α : Type} [Rep α] {xs : Tup α} (hm : X.mg "len" = none) (h : PAX X [a] Γ o [is X.K xs]) (hg : Gl X "len" := by rfl) (he : starEach [a] X.env = (false, eval a X.env) :: starEach [] X.env := by rfl) (hpl : (backTo pos (starEach [] X.env)).any (·.1) = false := by rfl) :
    PX X (.Call (.Name "len" p) [a] [] pos) Γ o (is X.K (xs.l.length : Int)) := x_len hm h (fun B v ⟨q, us, h1, h2, h3⟩ => ⟨q, us, h1, by rw [h3.length, List.length_map], .inr h2⟩) hg he hpl
theorem x_lenL {α : Type} [Rep α] {xs : List α} (hm : X.mg "len" = none) (h : PAX X [a] Γ o [is X.K xs]) (hg : Gl X "len" := by rfl) (he : starEach [a] X.env = (false, eval a X.env) :: starEach [] X.env := by rfl) (hpl : (backTo pos (starEach [] X.env)).any (·.1) = false := by rfl) :
    PX X (.Call (.Name "len" p) [a] [] pos) Γ o (is X.K (xs.length : Int)) := x_len hm h (fun B v ⟨q, us, h1, h2, h3⟩ => ⟨q, us, h1, by rw [h3.length, List.length_map], .inl (SqL.of h2)⟩) hg he hpl
theorem x_lenR {α : Type} [Rep α] {xs : Rdl α} (hm : X.mg "len" = none) (h : PAX X [a] Γ o [is X.K xs]) (hg : Gl X "len" := by rfl) (he : starEach [a] X.env = (false, eval a X.env) :: starEach [] X.env := by rfl) (hpl : (backTo pos (starEach [] X.env)).any (·.1) = false := by rfl) :
    PX X (.Call (.Name "len" p) [a] [] pos) Γ o (is X.K (xs.l.length : Int)) := x_len hm h (fun B v ⟨q, us, h1, h2, h3⟩ => ⟨q, us, h1, by rw [h3.length, List.length_map], .inl h2⟩) hg he hpl
theorem x_lenP (hm : X.mg "len" = none) (h : PAX X [a] Γ o [tupOf X.K Ps]) (hg : Gl X "len" := by rfl) (he : starEach [a] X.env = (false, eval a X.env) :: starEach [] X.env := by rfl) (hpl : (backTo pos (starEach [] X.env)).any (·.1) = false := by rfl) :
    PX X (.Call (.Name "len" p) [a] [] pos) Γ o (is X.K (Ps.length : Int)) := x_len hm h (fun B v ⟨q, us, h1, h2, h3⟩ => ⟨q, us, h1, h3.length, .inr h2⟩) hg he hpl
theorem x_lenS {z : Str} (hm : X.mg "len" = none) (h : PAX X [a] Γ o [is X.K z]) (hz : z.length ≤ sizeLine) (hg : Gl X "len" := by rfl) (he : starEach [a] X.env = (false, eval a X.env) :: starEach [] X.env := by rfl) (hpl : (backTo pos (starEach [] X.env)).any (·.1) = false := by rfl) :
    PX X (.Call (.Name "len" p) [a] [] pos) Γ o (is X.K (z.length : Int)) :=
  x_bi call_len_str hm PySem.boot_len h (fun B H vs Q s r k => by
    obtain ⟨v, rfl, rfl⟩ := r.one
    exact ⟨z, rfl, hz, k _ B H (.refl s) rfl⟩) hg (by decide) (by decide) he hpl
theorem x_intI (hm : X.mg "int" = none) (h : PAX X [a] Γ o [is X.K i]) (hg : Gl X "int" := by rfl) (he : starEach [a] X.env = (false, eval a X.env) :: starEach [] X.env := by rfl) (hpl : (backTo pos (starEach [] X.env)).any (·.1) = false := by rfl) :
    PX X (.Call (.Name "int" p) [a] [] pos) Γ o (is X.K i) :=
  x_bt call_int1 hm (by decide +kernel) h (fun B H vs Q s r k => by
    obtain ⟨v, rfl, rfl⟩ := r.one
    exact .inl ⟨i, rfl, k _ B H (.refl s) rfl⟩) hg (by decide) (by decide) he hpl
theorem Stp.newT {K : Fg} {B H : Hp} {us : List V} {l : Addr} (s : Same B H) (hl : H l = none) (r : AllR Ps B us) : Stp B H (upd B l (.tup us)) (upd H l (.tup us)) ∧ (tupOf K Ps).p (upd B l (.tup us)) (.ref l) :=
  ⟨Stp.new s hl, l, us, rfl, SqT.of upd_same, r.mono (Stp.new s hl).bb⟩
theorem Stp.newL {B H : Hp} {us : List V} {l : Addr} (s : Same B H) (hl : H l = none) (r : AllR Ps B us) : Stp B H (upd B l (.lst us)) (upd H l (.lst us)) ∧ (lstOf Ps).p (upd B l (.lst us)) (.ref l) :=
  ⟨Stp.new s hl, l, us, rfl, upd_same, r.mono (Stp.new s hl).bb⟩
/-- tuple(list) -/
theorem x_tupL (hm : X.mg "tuple" = none) (h : PAX X [a] Γ o [lstOf Ps]) (hg : Gl X "tuple" := by rfl) (he : starEach [a] X.env = (false, eval a X.env) :: starEach [] X.env := by rfl) (hpl : (backTo pos (starEach [] X.env)).any (·.1) = false := by rfl) :
    PX X (.Call (.Name "tuple" p) [a] [] pos) Γ o (tupOf X.K Ps) :=
  x_bt call_tuple_of hm (by decide +kernel) h (fun B H vs Q s r k => by
    obtain ⟨v, rfl, q, us, rfl, e1, e2⟩ := r.one
    exact ⟨q, us, rfl, .inl ⟨SqL.of (s _ _ e1), fun l hl => k _ _ _ (Stp.newT (K := X.K) s hl e2).1 (Stp.newT s hl e2).2⟩⟩) hg (by decide) (by decide) he hpl
theorem x_tupT (hm : X.mg "tuple" = none) (h : PAX X [a] Γ o [tupOf X.K Ps]) (hg : Gl X "tuple" := by rfl) (he : starEach [a] X.env = (false, eval a X.env) :: starEach [] X.env := by rfl) (hpl : (backTo pos (starEach [] X.env)).any (·.1) = false := by rfl) :
    PX X (.Call (.Name "tuple" p) [a] [] pos) Γ o (tupOf X.K Ps) :=
  x_bt call_tuple_of hm (by decide +kernel) h (fun B H vs Q s r k => by
    obtain ⟨v, rfl, q, us, rfl, e1, e2⟩ := r.one
    exact ⟨q, us, rfl, .inr ⟨SqT_mono s e1, k _ B H (.refl s) ⟨q, us, rfl, e1, e2⟩⟩⟩) hg (by decide) (by decide) he hpl
theorem x_lstL (hm : X.mg "list" = none) (h : PAX X [a] Γ o [lstOf Ps]) (hg : Gl X "list" := by rfl) (he : starEach [a] X.env = (false, eval a X.env) :: starEach [] X.env := by rfl) (hpl : (backTo pos (starEach [] X.env)).any (·.1) = false := by rfl) :
    PX X (.Call (.Name "list" p) [a] [] pos) Γ o (lstOf Ps) :=
  x_bt call_list_of hm (by decide +kernel) h (fun B H vs Q s r k => by
    obtain ⟨v, rfl, q, us, rfl, e1, e2⟩ := r.one
    exact ⟨q, us, rfl, .inl (SqL.of (s _ _ e1)), fun l hl => k _ _ _ (Stp.newL s hl e2).1 (Stp.newL s hl e2).2⟩) hg (by decide) (by decide) he hpl
theorem x_lstT (hm : X.mg "list" = none) (h : PAX X [a] Γ o [tupOf X.K Ps]) (hg : Gl X "list" := by rfl) (he : starEach [a] X.env = (false, eval a X.env) :: starEach [] X.env := by rfl) (hpl : (backTo pos (starEach [] X.env)).any (·.1) = false := by rfl) :
    PX X (.Call (.Name "list" p) [a] [] pos) Γ o (lstOf Ps) :=
  x_bt call_list_of hm (by decide +kernel) h (fun B H vs Q s r k => by
    obtain ⟨v, rfl, q, us, rfl, e1, e2⟩ := r.one
    exact ⟨q, us, rfl, .inr (SqT_mono s e1), fun l hl => k _ _ _ (Stp.newL s hl e2).1 (Stp.newL s hl e2).2⟩) hg (by decide) (by decide) he hpl
theorem x_isqrt (hm : X.mg "isqrt" = some (.builtin "math.isqrt")) (h : PAX X [a] Γ o [is X.K i]) (h0 : 0 ≤ i) (h1 : i.natAbs < 2 ^ 9000) (hg : Gl X "isqrt" := by rfl) (he : starEach [a] X.env = (false, eval a X.env) :: starEach [] X.env := by rfl) (hpl : (backTo pos (starEach [] X.env)).any (·.1) = false := by rfl) :
    PX X (.Call (.Name "isqrt" p) [a] [] pos) Γ o (is X.K (isq i)) := by
  obtain ⟨t, pp, f⟩ := h
  refine ⟨_, pe_callGB call_isqrt hg hm pp (by decide) he hpl, fun σ B H Q g k => f σ B H _ g fun vs B1 H1 s1 rv => ?_⟩
  obtain ⟨v, rfl, rfl⟩ := rv.one
  exact ⟨i, rfl, h0, h1, k _ B1 H1 s1 rfl⟩
/-- lists glued -/
theorem x_cat (ha : PX X a Γ o (lstOf Ps)) (hb : PX X b Γ o (lstOf Qs)) (h : Ps.length + Qs.length ≤ 1000) : PX X (.BinOp a .Add b pos) Γ o (lstOf (Ps ++ Qs)) := by
  obtain ⟨ta, pa, ra⟩ := ha
  obtain ⟨tb, pb, rb⟩ := hb
  refine ⟨_, pe_op op_cat pa pb, fun σ B H Q g k => ?_⟩
  refine ra σ B H _ g fun v B1 H1 s1 ⟨q, vs, h1, h2, h3⟩ => rb σ B1 H1 _ (g.stp s1) fun u B2 H2 s2 ⟨q', us, g1, g2, g3⟩ => ?_
  subst h1 g1
  refine ⟨q, q', vs, us, rfl, rfl, s2.bh _ _ (s2.bb _ _ h2), s2.bh _ _ g2, ?_, fun l hl => ?_⟩
  · rw [h3.length, g3.length]; exact small_le h
  · have n := Stp.newL s2.bh hl ((h3.mono s2.bb).append g3)
    exact k _ _ _ ((s1.trans s2).trans n.1) n.2
/-- xs[lo:hi] -/
def cutP (Ps : List MP) (lo hi : Option Int) : List MP := (Ps.drop (HT.sIx Ps.length 0 lo)).take (HT.sIx Ps.length Ps.length hi - HT.sIx Ps.length 0 lo)
theorem x_sliceLo {p2 : Pos} (ha : PX X a Γ o (lstOf Ps)) (hb : PX X b Γ o (is X.K i)) : PX X (.Subscript a (.Slice (some b) none none p2) pos) Γ o (lstOf (cutP Ps (some i) none)) := by
  obtain ⟨ta, pa, ra⟩ := ha
  obtain ⟨tb, pb, rb⟩ := hb
  refine ⟨_, pe_slice sl_list pa (po_some pb) po_none, fun σ B H Q g k => ?_⟩
  refine ra σ B H _ g fun v B1 H1 s1 ⟨q, vs, h1, h2, h3⟩ => rb σ B1 H1 _ (g.stp s1) fun u B2 H2 s2 e2 => ⟨i, e2, ?_⟩
  subst h1
  refine ⟨q, vs, rfl, SqL.of (s2.bh _ _ (s2.bb _ _ h2)), fun l hl => ?_⟩
  have e : AllR (cutP Ps (some i) none) B2 (cutV vs (some i) none) := by
    unfold cutP cutV
    rw [h3.length]
    exact ((h3.mono s2.bb).drop _).take _
  have n := Stp.newL s2.bh hl e
  exact k _ _ _ ((s1.trans s2).trans n.1) n.2
theorem x_sliceHi {p2 : Pos} (ha : PX X a Γ o (lstOf Ps)) (hb : PX X b Γ o (is X.K i)) : PX X (.Subscript a (.Slice none (some b) none p2) pos) Γ o (lstOf (cutP Ps none (some i))) := by
  obtain ⟨ta, pa, ra⟩ := ha
  obtain ⟨tb, pb, rb⟩ := hb
  refine ⟨_, pe_slice sl_list pa po_none (po_some pb), fun σ B H Q g k => ?_⟩
  refine ra σ B H _ g fun v B1 H1 s1 ⟨q, vs, h1, h2, h3⟩ => rb σ B1 H1 _ (g.stp s1) fun u B2 H2 s2 e2 => ⟨i, e2, ?_⟩
  subst h1
  refine ⟨q, vs, rfl, SqL.of (s2.bh _ _ (s2.bb _ _ h2)), fun l hl => ?_⟩
  have e : AllR (cutP Ps none (some i)) B2 (cutV vs none (some i)) := by
    unfold cutP cutV
    rw [h3.length]
    exact ((h3.mono s2.bb).drop _).take _
  have n := Stp.newL s2.bh hl e
  exact k _ _ _ ((s1.trans s2).trans n.1) n.2
/-- if xs: -/
theorem t_listL (h : PX X e Γ o (lstOf Ps)) (he : ∀ whole, isTrue e X.env whole = (do let v ← whole; standAt e.pos; holding [v] (truthy v)) := by intro _; rfl) : PTX X e Γ o (!Ps.isEmpty) := by
  obtain ⟨t, pp, f⟩ := h
  refine ⟨_, pt_truth pp he, fun σ B H Q g k => f σ B H _ g fun v B1 H1 s1 ⟨q, vs, h1, h2, h3⟩ => ?_⟩
  subst h1
  refine ⟨_, .inl ⟨vs, SqL.of (s1.bh _ _ h2), rfl⟩, ?_⟩
  have e : vs.isEmpty = Ps.isEmpty := by
    have := h3.length
    cases vs <;> cases Ps <;> first | rfl | (simp at this)
  rw [e]
  exact k B1 H1 s1
/-! data compared -/
class ToD (α : Type) [Rep α] where
  toD : α → PyData
  dp : ∀ (K : Fg) (B : Hp) (v : V) (a : α), (is K a).p B v → Dp K B v (toD a)
  sh : ∀ a : α, SeqAt.shaped (toD a) = true
theorem x_neD {α β : Type} [Rep α] [Rep β] [ToD α] [ToD β] {c : α} {d : β} (hu : X.A.units + 64 < cLine) (ha : PX X a Γ o (is X.K c)) (hb : PX X b Γ o (is X.K d)) : PTX X (.Compare a [.NotEq] [b] pos) Γ o (!PyData.eqv (ToD.toD c) (ToD.toD d)) := by
  obtain ⟨ta, pa, ra⟩ := ha
  obtain ⟨tb, pb, rb⟩ := hb
  refine ⟨_, pt_cmpR (op_neD hu) pa pb (nomark _), fun σ B H Q g k => ?_⟩
  refine ra σ B H _ g fun v B1 H1 s1 e1 => rb σ B1 H1 _ (g.stp s1) fun u B2 H2 s2 e2 => ?_
  exact ⟨ToD.toD c, ToD.toD d, ToD.dp X.K H2 v c ((is X.K c).mono (s2.bb.trans s2.bh) e1), ToD.dp X.K H2 u d ((is X.K d).mono s2.bh e2), ToD.sh c, ToD.sh d, _, rfl, k B2 H2 (s1.trans s2)⟩
theorem x_eqD {α β : Type} [Rep α] [Rep β] [ToD α] [ToD β] {c : α} {d : β} (hu : X.A.units + 64 < cLine) (ha : PX X a Γ o (is X.K c)) (hb : PX X b Γ o (is X.K d)) : PX X (.Compare a [.Eq] [b] pos) Γ o (is X.K (PyData.eqv (ToD.toD c) (ToD.toD d))) := by
  obtain ⟨ta, pa, ra⟩ := ha
  obtain ⟨tb, pb, rb⟩ := hb
  refine ⟨_, pe_cmpR (op_eqD hu) pa pb (nomark _), fun σ B H Q g k => ?_⟩
  refine ra σ B H _ g fun v B1 H1 s1 e1 => rb σ B1 H1 _ (g.stp s1) fun u B2 H2 s2 e2 => ?_
  exact ⟨ToD.toD c, ToD.toD d, ToD.dp X.K H2 v c ((is X.K c).mono (s2.bb.trans s2.bh) e1), ToD.dp X.K H2 u d ((is X.K d).mono s2.bh e2), ToD.sh c, ToD.sh d, k _ B2 H2 (s1.trans s2) rfl⟩
end
end L3
set_option maxHeartbeats 400000
/-! The program's data and its functions, in plain Lean. -/
namespace Or
open PySem L2 L3
abbrev Iv := T2 Int Int
abbrev Box := T3 Iv Iv Iv
abbrev Pt := T3 Int Int Int
structure Body where
  mu : Int
  obl : Int
  turn : Pt
structure Burn where
  b : Int
  e : Int
  push : Box
structure Sight where
  at_ : Int
  place : Box
structure Craft where
  name : Str
  start : Int
  place : Box
  speed : Box
  drift : Int
  burns : Tup Burn
  sights : Tup Sight
structure Conts where
  body : Body
  stride : Int
  fine : Int
  crafts : Tup Craft
  sites : Tup Craft
structure State where
  place : Box
  speed : Box
structure Moment where
  at_ : Int
  states : List State
structure Journey where
  moments : List Moment
  ending : Str
  broken : Option Int
structure Cert where
  body : Body
  fine : Int
  craft : Craft
  claims : List (List State)
structure Piece where
  b : Int
  e : Int
  parts : Tup Box
structure Course where
  pieces : List Piece
  ending : Str
abbrev cls (K : Fg) (x : Str) : Addr := He.ga K x
def fBody (K : Fg) (d : Body) : List (Str × MP) := [("mu", is K d.mu), ("oblateness", is K d.obl), ("turn", is K d.turn)]
def fBurn (K : Fg) (d : Burn) : List (Str × MP) := [("begin", is K d.b), ("end", is K d.e), ("push", is K d.push)]
def fSight (K : Fg) (d : Sight) : List (Str × MP) := [("at", is K d.at_), ("place", is K d.place)]
instance : Rep Body := ⟨fun K d => insOf (cls K "Body") (fBody K d)⟩
instance : Rep Burn := ⟨fun K d => insOf (cls K "Burn") (fBurn K d)⟩
instance : Rep Sight := ⟨fun K d => insOf (cls K "Sighting") (fSight K d)⟩
def fCraft (K : Fg) (d : Craft) : List (Str × MP) := [("name", is K d.name), ("start", is K d.start), ("place", is K d.place), ("speed", is K d.speed), ("drift", is K d.drift), ("burns", is K d.burns), ("sightings", is K d.sights)]
instance : Rep Craft := ⟨fun K d => insOf (cls K "Craft") (fCraft K d)⟩
def fConts (K : Fg) (d : Conts) : List (Str × MP) := [("body", is K d.body), ("stride", is K d.stride), ("fineness", is K d.fine), ("crafts", is K d.crafts), ("sites", is K d.sites)]
instance : Rep Conts := ⟨fun K d => insOf (cls K "Contents") (fConts K d)⟩
def fState (K : Fg) (d : State) : List (Str × MP) := [("place", is K d.place), ("speed", is K d.speed)]
instance : Rep State := ⟨fun K d => insOf (cls K "State") (fState K d)⟩
def fMoment (K : Fg) (d : Moment) : List (Str × MP) := [("at", is K d.at_), ("states", is K d.states)]
instance : Rep Moment := ⟨fun K d => insOf (cls K "Moment") (fMoment K d)⟩
def fJourney (K : Fg) (d : Journey) : List (Str × MP) := [("moments", is K d.moments), ("ending", is K d.ending), ("broken", is K d.broken)]
instance : Rep Journey := ⟨fun K d => insOf (cls K "Journey") (fJourney K d)⟩
def fCert (K : Fg) (d : Cert) : List (Str × MP) := [("body", is K d.body), ("fineness", is K d.fine), ("craft", is K d.craft), ("claims", is K d.claims)]
instance : Rep Cert := ⟨fun K d => insOf (cls K "Certificate") (fCert K d)⟩
def fPiece (K : Fg) (d : Piece) : List (Str × MP) := [("begin", is K d.b), ("end", is K d.e), ("parts", is K d.parts)]
instance : Rep Piece := ⟨fun K d => insOf (cls K "Piece") (fPiece K d)⟩
def fCourse (K : Fg) (d : Course) : List (Str × MP) := [("pieces", is K d.pieces), ("ending", is K d.ending)]
instance : Rep Course := ⟨fun K d => insOf (cls K "Course") (fCourse K d)⟩
def fCat (K : Fg) (c : Conts) (version : Int) (earlier : List Conts) : List (Str × MP) := [("contents", is K c), ("version", is K version), ("earlier", is K earlier)]
/-! ### intervals -/
namespace Iv
def add (a b : Iv) : Iv := ⟨a.a + b.a, a.b + b.b⟩
def sub (a b : Iv) : Iv := ⟨a.a - b.b, a.b - b.a⟩
def scaled (a : Iv) (n : Int) : Iv := if n < 0 then ⟨a.b * n, a.a * n⟩ else ⟨a.a * n, a.b * n⟩
def min4 (p q r s : Int) : Int := min (min (min p q) r) s
def max4 (p q r s : Int) : Int := max (max (max p q) r) s
def mul (a b : Iv) : Iv := ⟨min4 (a.a * b.a) (a.a * b.b) (a.b * b.a) (a.b * b.b), max4 (a.a * b.a) (a.a * b.b) (a.b * b.a) (a.b * b.b)⟩
def square (a : Iv) : Iv := if 0 ≤ a.a then ⟨a.a * a.a, a.b * a.b⟩ else if a.b ≤ 0 then ⟨a.b * a.b, a.a * a.a⟩ else ⟨0, max (a.a * a.a) (a.b * a.b)⟩
def quot (a d : Iv) : Iv := ⟨min (a.a / d.a) (a.a / d.b), max (a.b / d.a) (a.b / d.b)⟩
def root (a : Iv) : Iv := ⟨isq (max a.a 0), isq a.b⟩
def meet (a b : Iv) : Option Iv := if min a.b b.b < max a.a b.a then none else some ⟨max a.a b.a, min a.b b.b⟩
def hull (a b : Iv) : Iv := ⟨min a.a b.a, max a.b b.b⟩
def widened (a : Iv) (w : Int) : Iv := ⟨a.a - w, a.b + w⟩
def middle (a : Iv) : Int := (a.a + a.b) / 2
def width (a : Iv) : Int := a.b - a.a
def ab (x : Int) : Int := if x < 0 then -x else x
def size (a : Iv) : Int := max (ab a.a) (ab a.b)
def inside (i o : Iv) : Bool := decide (o.a ≤ i.a) && decide (i.b ≤ o.b)
def has (a : Iv) (n : Int) : Bool := decide (a.a ≤ n) && decide (n ≤ a.b)
end Iv
/-! ### boxes -/
namespace Box
def add (a b : Box) : Box := ⟨Iv.add a.a b.a, Iv.add a.b b.b, Iv.add a.c b.c⟩
def sub (a b : Box) : Box := ⟨Iv.sub a.a b.a, Iv.sub a.b b.b, Iv.sub a.c b.c⟩
def hull (a b : Box) : Box := ⟨Iv.hull a.a b.a, Iv.hull a.b b.b, Iv.hull a.c b.c⟩
def widened (a : Box) (w : Int) : Box := ⟨Iv.widened a.a w, Iv.widened a.b w, Iv.widened a.c w⟩
def meet (a b : Box) : Option Box := match Iv.meet a.a b.a, Iv.meet a.b b.b, Iv.meet a.c b.c with
  | some x, some y, some z => some ⟨x, y, z⟩
  | _, _, _ => none
def inside (i o : Box) : Bool := Iv.inside i.a o.a && (Iv.inside i.b o.b && Iv.inside i.c o.c)
def has (a : Box) (p : Pt) : Bool := Iv.has a.a p.a && (Iv.has a.b p.b && Iv.has a.c p.c)
def sqlen (a : Box) : Iv := Iv.add (Iv.add (Iv.square a.a) (Iv.square a.b)) (Iv.square a.c)
def size (a : Box) : Int := max (max (Iv.size a.a) (Iv.size a.b)) (Iv.size a.c)
/-- by its place -/
def at_ (a : Box) : Nat → Iv
  | 0 => a.a
  | 1 => a.b
  | _ => a.c
def put (a : Box) (k : Int) (i : Iv) : Box := ⟨if (0 : Int) = k then i else a.a, if (1 : Int) = k then i else a.b, if (2 : Int) = k then i else a.c⟩
end Box
def nothing : Box := ⟨⟨0, 0⟩, ⟨0, 0⟩, ⟨0, 0⟩⟩
def LIMIT : Int := 10 ^ 40
/-! ### forces -/
def factor : Nat → Int
  | 0 => 1
  | 1 => 1
  | _ => 3
def pullIv (b : Body) (x : Box) (i : Nat) : Iv :=
  Iv.add (Iv.quot (Iv.scaled (x.at_ i) (-b.mu)) (Iv.mul (Box.sqlen x) (Iv.root (Box.sqlen x))))
    (Iv.quot (Iv.scaled (Iv.mul (x.at_ i) (Iv.sub (Iv.scaled (Iv.square x.c) 5) (Iv.scaled (Box.sqlen x) (factor i)))) b.obl)
      (Iv.mul (Iv.mul (Box.sqlen x) (Box.sqlen x)) (Iv.mul (Box.sqlen x) (Iv.root (Box.sqlen x)))))
def pullOver (b : Body) (x : Box) : Option Box := if (Box.sqlen x).a = 0 then none else some ⟨pullIv b x 0, pullIv b x 1, pullIv b x 2⟩
def actB (at_ : Int) (u : Burn) : Bool := decide (u.b ≤ at_) && decide (at_ < u.e)
def pushAt (c : Craft) (at_ : Int) : Box := match c.burns.l.find? (actB at_) with
  | some u => u.push
  | none => nothing
/-! ### states -/
def State.ivs (s : State) : List Iv := [s.place.a, s.place.b, s.place.c, s.speed.a, s.speed.b, s.speed.c]
def wd (l : List Iv) (k : Nat) : Int := Iv.width (l.getD k ⟨0, 0⟩)
def widest (l : List Iv) : Nat → Nat
  | 0 => 0
  | k + 1 => if wd l (widest l k) < wd l (k + 1) then k + 1 else widest l k
def half (s : State) (k : Nat) (h : Iv) : State := if (k : Int) < 3 then ⟨s.place.put k h, s.speed⟩ else ⟨s.place, s.speed.put ((k : Int) - 3) h⟩
def split (s : State) : List State :=
  let k := widest s.ivs 5
  let i := s.ivs.getD k ⟨0, 0⟩
  if i.a = i.b then [s] else [half s k ⟨i.a, Iv.middle i⟩, half s k ⟨Iv.middle i + 1, i.b⟩]
def partsOf (s : State) : Nat → List State
  | 0 => [s]
  | n + 1 => (partsOf s n).flatMap split
def sInside (i o : State) : Bool := Box.inside i.place o.place && Box.inside i.speed o.speed
def sHas (s : State) (p v : Pt) : Bool := Box.has s.place p && Box.has s.speed v
def newSpeed (s : State) (a push : Box) (drift : Int) : Box := Box.widened (Box.add (Box.add s.speed a) push) drift
def stepS (b : Body) (s : State) (push : Box) (drift : Int) : Option State := match pullOver b s.place with
  | none => none
  | some a => if LIMIT < Box.size (Box.add s.place (newSpeed s a push drift)) ∨ LIMIT < Box.size (newSpeed s a push drift) then none else some ⟨Box.add s.place (newSpeed s a push drift), newSpeed s a push drift⟩
def cutS (s : State) (b : Box) : Option State := match Box.meet s.place b with
  | none => none
  | some p => some ⟨p, s.speed⟩
/-! ### journeys -/
def seenAt (at_ : Int) (u : Sight) : Bool := decide (u.at_ = at_)
def sightAt (c : Craft) (at_ : Int) : Option Box := (c.sights.l.find? (seenAt at_)).map (·.place)
def cutAll (l : List State) : Option Box → List State
  | none => l
  | some b => l.filterMap fun s => cutS s b
def stepL (b : Body) (push : Box) (drift : Int) : List State → Option (List State)
  | [] => some []
  | s :: r => match stepS b s push drift with
    | none => none
    | some x => (stepL b push drift r).map (x :: ·)
def stepAll (b : Body) (c : Craft) (m : Moment) : Option (List State) := stepL b (pushAt c m.at_) c.drift m.states
def firstStates (fine : Int) (c : Craft) : List State := cutAll (partsOf ⟨c.place, c.speed⟩ fine.toNat) (sightAt c c.start)
def journeyGo (b : Body) (c : Craft) : Nat → Int → List Moment → Moment → Journey
  | 0, _, ms, _ => ⟨ms, "whole", none⟩
  | n + 1, at_, ms, cur => match stepAll b c cur with
    | none => ⟨ms, "lost", some at_⟩
    | some st => if (cutAll st (sightAt c at_)).length = 0 then ⟨ms, "void", some at_⟩ else journeyGo b c n (at_ + 1) (ms ++ [⟨at_, cutAll st (sightAt c at_)⟩]) ⟨at_, cutAll st (sightAt c at_)⟩
def journey (b : Body) (fine : Int) (c : Craft) (until_ : Int) : Journey :=
  if until_ < c.start then ⟨[], "whole", none⟩
  else if (firstStates fine c).length = 0 then ⟨[], "void", some c.start⟩
  else journeyGo b c (until_ - c.start).toNat (c.start + 1) [⟨c.start, firstStates fine c⟩] ⟨c.start, firstStates fine c⟩
def Journey.at_ (j : Journey) (t : Int) : Option Moment := j.moments.find? fun m => decide (m.at_ = t)
/-! ### meetings -/
def gapL (a b : List State) : List Iv := a.flatMap fun x => b.map fun y => Box.sqlen (Box.sub x.place y.place)
def gap (a b : Moment) : Iv := (gapL a.states b.states).foldl Iv.hull ((gapL a.states b.states).headD ⟨0, 0⟩)
def rootUp (n : Int) : Int := if isq n * isq n = n then isq n else isq n + 1
def verdictOf (s : Iv) (d : Int) : Str := if d * d < s.a then "impossible" else if s.b ≤ d * d then "certain" else "possible"
def brk (j : Journey) (t : Int) : Bool := (j.at_ t).isNone && decide (j.ending = "void")
def brokenWord (a b : Journey) (t : Int) : Str := if brk a t || brk b t then "void" else "unknown"
structure Row where
  at_ : Int
  sq : Option Iv
  wd : Str
instance : Rep Row := ⟨fun K r => match r.sq with
  | some q => is K (T3.mk r.at_ q Non.non)
  | none => is K (T3.mk r.at_ Non.non r.wd)⟩
def tickRow (a b : Journey) (t : Int) : Row := match a.at_ t, b.at_ t with
  | some h, some g => ⟨t, some (gap h g), ""⟩
  | _, _ => ⟨t, none, brokenWord a b t⟩
def lowTick (a b : Craft) (begin_ : Int) : Int := max (max begin_ a.start) b.start
def ticksOf (c : Conts) (a b : Craft) (begin_ end_ : Int) : List Row :=
  (List.range (end_ + 1 - lowTick a b begin_).toNat).map fun (i : Nat) => tickRow (journey c.body c.fine a end_) (journey c.body c.fine b end_) (lowTick a b begin_ + (i : Int))
structure Span where
  b : Int
  e : Int
  v : Str
  sq : Option Iv
instance : Rep Span := ⟨fun K s => is K (T4.mk s.b s.e s.v s.sq)⟩
structure Told where
  b : Int
  e : Int
  v : Str
  lo : Option Int
  hi : Option Int
instance : Rep Told := ⟨fun K s => is K (T5.mk s.b s.e s.v s.lo s.hi)⟩
def told (s : Span) : Told := ⟨s.b, s.e, s.v, s.sq.map fun q => isq q.a, s.sq.map fun q => rootUp q.b⟩
def Row.verdict (r : Row) (d : Int) : Str := match r.sq with
  | some q => verdictOf q d
  | none => r.wd
def hullO : Option Iv → Option Iv → Option Iv
  | some p, some q => some (Iv.hull p q)
  | _, _ => none
def addRow (d : Int) (l : List Span) (r : Row) : List Span := match l.getLast? with
  | some s => if s.v = r.verdict d then l.set (l.length - 1) ⟨s.b, r.at_, r.verdict d, hullO s.sq r.sq⟩ else l ++ [⟨r.at_, r.at_, r.verdict d, r.sq⟩]
  | none => l ++ [⟨r.at_, r.at_, r.verdict d, r.sq⟩]
def spansOf (d : Int) (rows : List Row) : List Span := rows.foldl (addRow d) []
def meeting (c : Conts) (a b : Craft) (begin_ end_ d : Int) : List Told := (spansOf d (ticksOf c a b begin_ end_)).map told
/-! ### certificates -/
def certOf (c : Conts) (a : Craft) (j : Journey) : Cert := ⟨c.body, c.fine, a, j.moments.map (·.states)⟩
def held (s : State) (l : List State) : Bool := l.any fun e => sInside s e
def startHolds (c : Cert) : Bool := (firstStates c.fine c.craft).all fun s => held s (c.claims.headD [])
def followHeld (box : Option Box) (later : List State) (f : State) : Bool := match box with
  | none => held f later
  | some b => match cutS f b with
    | none => true
    | some g => held g later
def stepHolds (c : Cert) (at_ : Int) (states later : List State) : Bool := states.all fun s => match stepS c.body s (pushAt c.craft at_) c.craft.drift with
  | none => false
  | some f => followHeld (sightAt c.craft (at_ + 1)) later f
def refGo (c : Cert) (claims : List (List State)) : Nat → Nat → Option Int
  | 0, _ => none
  | n + 1, k => if stepHolds c (c.craft.start + k) (claims.getD k []) (claims.getD (k + 1) []) then refGo c claims n (k + 1) else some (c.craft.start + k + 1)
def refusedAt (c : Cert) : Option Int := if startHolds c then refGo c c.claims (c.claims.length - 1) 0 else some c.craft.start
/-! ### courses -/
abbrev CRow := T2 State Box
def followRow (box : Option Box) (d : Box) (f : State) : List CRow := match box with
  | none => [⟨f, Box.hull d f.place⟩]
  | some b => match cutS f b with
    | none => []
    | some g => [⟨g, Box.hull d g.place⟩]
def nextL (b : Body) (push : Box) (drift : Int) (box : Option Box) : List CRow → Option (List CRow)
  | [] => some []
  | r :: rs => match stepS b r.a push drift with
    | none => none
    | some f => (nextL b push drift box rs).map (followRow box r.b f ++ ·)
def nextRows (b : Body) (c : Craft) (at_ : Int) (rows : List CRow) : T2 (List CRow) Str := match nextL b (pushAt c at_) c.drift (sightAt c (at_ + 1)) rows with
  | none => ⟨[], "lost"⟩
  | some [] => ⟨[], "void"⟩
  | some (r :: rs) => ⟨r :: rs, "whole"⟩
def restart (rows : List CRow) : List CRow := rows.map fun r => ⟨r.a, r.a.place⟩
def addPiece (ps : List Piece) (rows : List CRow) (bg stride at_ : Int) : List Piece := if at_ = bg + stride - 1 then ps ++ [⟨bg, at_, ⟨rows.map (·.b)⟩⟩] else ps
def courseGo (b : Body) (c : Craft) (stride until_ : Int) : Nat → List Piece → List CRow → Int → Int → Course
  | 0, ps, _, _, _ => ⟨ps, "whole"⟩
  | n + 1, ps, rows, bg, at_ =>
    if at_ = bg + stride - 1 ∧ until_ ≤ at_ then ⟨addPiece ps rows bg stride at_, "whole"⟩
    else if (nextRows b c at_ rows).b = "whole" then
      (if at_ + 1 = bg + stride then courseGo b c stride until_ n (addPiece ps rows bg stride at_) (restart (nextRows b c at_ rows).a) (at_ + 1) (at_ + 1)
      else courseGo b c stride until_ n (addPiece ps rows bg stride at_) (nextRows b c at_ rows).a bg (at_ + 1))
    else ⟨addPiece ps rows bg stride at_, (nextRows b c at_ rows).b⟩
def startRows (fine : Int) (c : Craft) : List CRow := (firstStates fine c).map fun s => ⟨s, s.place⟩
def course (k : Conts) (c : Craft) (until_ : Int) : Course :=
  if until_ < c.start then ⟨[], "whole"⟩
  else if (firstStates k.fine c).length = 0 then ⟨[], "void"⟩
  else courseGo k.body c k.stride until_ (until_ + k.stride + 1 - c.start).toNat [] (startRows k.fine c) c.start c.start
end Or
set_option maxHeartbeats 400000
namespace Or
open PySem PySem.Spec PyProof.Rows L2 L3
structure Tx (w : World) (K : Fg) (mg : Str → Option Value) : Prop where
  ex : ∃ h : Heap, K.In h ∧ h.Ns mainGlobals mg
  says : He.SaysT fa fn tabs w K
  more : moreB K = true
  lost : lostW K = lostV
section
variable {P : Program} {w : World} {K : Fg} {mg : Str → Option Value} {base : Heap}
theorem Tx.def_ (T : Tx w K mg) (i : Nat) {d : He.DefD} (h : fn[i]? = some d := by rfl) : ∃ fd, FunD K d.name d.qual d.params d.body d.scope (d.dvs K) (d.kws K) (He.fAd K d.at_) fd := T.says.d.def_ i h
theorem Tx.glo (T : Tx w K mg) (i : Nat) {x : Str} (h : fa[i]? = some (.glo x) := by rfl) : mg x = some (.ref (He.ga K x)) := let ⟨_, X, G⟩ := T.ex; He.glo_ok X G (T.says.d.fact i h)
theorem Tx.free (T : Tx w K mg) (i : Nat) {x : Str} (h : fa[i]? = some (.free x) := by rfl) : mg x = none := let ⟨_, X, G⟩ := T.ex; He.free_ok X G (T.says.d.fact i h)
theorem Tx.int (T : Tx w K mg) (i : Nat) {x : Str} {n : Int} (h : fa[i]? = some (.int x n) := by rfl) : ∃ t, mg x = some (.int n t) := let ⟨_, X, G⟩ := T.ex; He.int_ok X G (T.says.d.fact i h)
theorem Tx.cls (T : Tx w K mg) (i : Nat) {x : Str} (h : fa[i]? = some (.cls x) := by rfl) : Cls K (He.ga K x) := He.cls_ok (T.says.d.fact i h)
theorem Tx.noat (T : Tx w K mg) (i : Nat) {x f : Str} (h : fa[i]? = some (.noat x f) := by rfl) : NoAttr K (He.ga K x) f := He.noat_ok (T.says.d.fact i h)
theorem Tx.meth (T : Tx w K mg) (i : Nat) {x m : Str} (h : fa[i]? = some (.meth x m) := by rfl) : Meth K (He.ga K x) m (He.ma K (He.ga K x) m) := He.meth_ok (T.says.d.fact i h)
theorem Tx.mkr (T : Tx w K mg) (i : Nat) {x : Str} (h : fa[i]? = some (.mkr x) := by rfl) : Mk K (He.ga K x) (He.ma K (He.ga K x) "__init__") := He.mkr_ok (T.says.d.fact i h)
theorem Tx.isq (T : Tx w K mg) : mg "isqrt" = some (.builtin "math.isqrt") := let ⟨_, X, G⟩ := T.ex; builtinB_ok X G (He.ba T.more).1
theorem Tx.glo_OrreryError (T : Tx w K mg) : mg "OrreryError" = some (.ref (He.ga K "OrreryError")) := T.glo 0
theorem Tx.glo_CourseVoid (T : Tx w K mg) : mg "CourseVoid" = some (.ref (He.ga K "CourseVoid")) := T.glo 1
theorem Tx.glo_CourseLost (T : Tx w K mg) : mg "CourseLost" = some (.ref (He.ga K "CourseLost")) := T.glo 2
theorem Tx.glo_find_named (T : Tx w K mg) : mg "find_named" = some (.ref (He.ga K "find_named")) := T.glo 3
theorem Tx.glo_put_named (T : Tx w K mg) : mg "put_named" = some (.ref (He.ga K "put_named")) := T.glo 4
theorem Tx.glo_drop_named (T : Tx w K mg) : mg "drop_named" = some (.ref (He.ga K "drop_named")) := T.glo 5
theorem Tx.glo_craft_of (T : Tx w K mg) : mg "craft_of" = some (.ref (He.ga K "craft_of")) := T.glo 6
theorem Tx.glo_check (T : Tx w K mg) : mg "check" = some (.ref (He.ga K "check")) := T.glo 7
theorem Tx.glo_is_name (T : Tx w K mg) : mg "is_name" = some (.ref (He.ga K "is_name")) := T.glo 8
theorem Tx.glo_is_tick (T : Tx w K mg) : mg "is_tick" = some (.ref (He.ga K "is_tick")) := T.glo 9
theorem Tx.glo_is_box (T : Tx w K mg) : mg "is_box" = some (.ref (He.ga K "is_box")) := T.glo 10
theorem Tx.glo_Body (T : Tx w K mg) : mg "Body" = some (.ref (He.ga K "Body")) := T.glo 11
theorem Tx.glo_Burn (T : Tx w K mg) : mg "Burn" = some (.ref (He.ga K "Burn")) := T.glo 12
theorem Tx.glo_Sighting (T : Tx w K mg) : mg "Sighting" = some (.ref (He.ga K "Sighting")) := T.glo 13
theorem Tx.glo_Craft (T : Tx w K mg) : mg "Craft" = some (.ref (He.ga K "Craft")) := T.glo 14
theorem Tx.glo_Contents (T : Tx w K mg) : mg "Contents" = some (.ref (He.ga K "Contents")) := T.glo 15
theorem Tx.glo_same_craft (T : Tx w K mg) : mg "same_craft" = some (.ref (He.ga K "same_craft")) := T.glo 16
theorem Tx.glo_craft_data (T : Tx w K mg) : mg "craft_data" = some (.ref (He.ga K "craft_data")) := T.glo 17
theorem Tx.glo_body_data (T : Tx w K mg) : mg "body_data" = some (.ref (He.ga K "body_data")) := T.glo 18
theorem Tx.glo_entries (T : Tx w K mg) : mg "entries" = some (.ref (He.ga K "entries")) := T.glo 19
theorem Tx.glo_first_difference (T : Tx w K mg) : mg "first_difference" = some (.ref (He.ga K "first_difference")) := T.glo 20
theorem Tx.glo_touched_at (T : Tx w K mg) : mg "touched_at" = some (.ref (He.ga K "touched_at")) := T.glo 21
theorem Tx.glo_rules_differ (T : Tx w K mg) : mg "rules_differ" = some (.ref (He.ga K "rules_differ")) := T.glo 22
theorem Tx.glo_touched_crafts (T : Tx w K mg) : mg "touched_crafts" = some (.ref (He.ga K "touched_crafts")) := T.glo 23
theorem Tx.glo_touched_sites (T : Tx w K mg) : mg "touched_sites" = some (.ref (He.ga K "touched_sites")) := T.glo 24
theorem Tx.glo_gone (T : Tx w K mg) : mg "gone" = some (.ref (He.ga K "gone")) := T.glo 25
theorem Tx.glo_differences (T : Tx w K mg) : mg "differences" = some (.ref (He.ga K "differences")) := T.glo 26
theorem Tx.glo_with_crafts (T : Tx w K mg) : mg "with_crafts" = some (.ref (He.ga K "with_crafts")) := T.glo 27
theorem Tx.glo_changed_craft (T : Tx w K mg) : mg "changed_craft" = some (.ref (He.ga K "changed_craft")) := T.glo 28
theorem Tx.glo_add_craft (T : Tx w K mg) : mg "add_craft" = some (.ref (He.ga K "add_craft")) := T.glo 29
theorem Tx.glo_drop_craft (T : Tx w K mg) : mg "drop_craft" = some (.ref (He.ga K "drop_craft")) := T.glo 30
theorem Tx.glo_set_drift (T : Tx w K mg) : mg "set_drift" = some (.ref (He.ga K "set_drift")) := T.glo 31
theorem Tx.glo_add_burn (T : Tx w K mg) : mg "add_burn" = some (.ref (He.ga K "add_burn")) := T.glo 32
theorem Tx.glo_add_sighting (T : Tx w K mg) : mg "add_sighting" = some (.ref (He.ga K "add_sighting")) := T.glo 33
theorem Tx.glo_drop_sighting (T : Tx w K mg) : mg "drop_sighting" = some (.ref (He.ga K "drop_sighting")) := T.glo 34
theorem Tx.glo_set_stride (T : Tx w K mg) : mg "set_stride" = some (.ref (He.ga K "set_stride")) := T.glo 35
theorem Tx.glo_set_fineness (T : Tx w K mg) : mg "set_fineness" = some (.ref (He.ga K "set_fineness")) := T.glo 36
theorem Tx.glo_apply_edit (T : Tx w K mg) : mg "apply_edit" = some (.ref (He.ga K "apply_edit")) := T.glo 37
theorem Tx.glo_Catalogue (T : Tx w K mg) : mg "Catalogue" = some (.ref (He.ga K "Catalogue")) := T.glo 38
theorem Tx.glo_add (T : Tx w K mg) : mg "add" = some (.ref (He.ga K "add")) := T.glo 39
theorem Tx.glo_subtract (T : Tx w K mg) : mg "subtract" = some (.ref (He.ga K "subtract")) := T.glo 40
theorem Tx.glo_scaled (T : Tx w K mg) : mg "scaled" = some (.ref (He.ga K "scaled")) := T.glo 41
theorem Tx.glo_multiply (T : Tx w K mg) : mg "multiply" = some (.ref (He.ga K "multiply")) := T.glo 42
theorem Tx.glo_square (T : Tx w K mg) : mg "square" = some (.ref (He.ga K "square")) := T.glo 43
theorem Tx.glo_quotient (T : Tx w K mg) : mg "quotient" = some (.ref (He.ga K "quotient")) := T.glo 44
theorem Tx.glo_root (T : Tx w K mg) : mg "root" = some (.ref (He.ga K "root")) := T.glo 45
theorem Tx.glo_meet (T : Tx w K mg) : mg "meet" = some (.ref (He.ga K "meet")) := T.glo 46
theorem Tx.glo_hull (T : Tx w K mg) : mg "hull" = some (.ref (He.ga K "hull")) := T.glo 47
theorem Tx.glo_widened (T : Tx w K mg) : mg "widened" = some (.ref (He.ga K "widened")) := T.glo 48
theorem Tx.glo_middle (T : Tx w K mg) : mg "middle" = some (.ref (He.ga K "middle")) := T.glo 49
theorem Tx.glo_width (T : Tx w K mg) : mg "width" = some (.ref (He.ga K "width")) := T.glo 50
theorem Tx.glo_size (T : Tx w K mg) : mg "size" = some (.ref (He.ga K "size")) := T.glo 51
theorem Tx.glo_inside (T : Tx w K mg) : mg "inside" = some (.ref (He.ga K "inside")) := T.glo 52
theorem Tx.glo_has (T : Tx w K mg) : mg "has" = some (.ref (He.ga K "has")) := T.glo 53
theorem Tx.glo_box_add (T : Tx w K mg) : mg "box_add" = some (.ref (He.ga K "box_add")) := T.glo 54
theorem Tx.glo_box_subtract (T : Tx w K mg) : mg "box_subtract" = some (.ref (He.ga K "box_subtract")) := T.glo 55
theorem Tx.glo_box_hull (T : Tx w K mg) : mg "box_hull" = some (.ref (He.ga K "box_hull")) := T.glo 56
theorem Tx.glo_box_widened (T : Tx w K mg) : mg "box_widened" = some (.ref (He.ga K "box_widened")) := T.glo 57
theorem Tx.glo_box_meet (T : Tx w K mg) : mg "box_meet" = some (.ref (He.ga K "box_meet")) := T.glo 58
theorem Tx.glo_box_inside (T : Tx w K mg) : mg "box_inside" = some (.ref (He.ga K "box_inside")) := T.glo 59
theorem Tx.glo_box_has (T : Tx w K mg) : mg "box_has" = some (.ref (He.ga K "box_has")) := T.glo 60
theorem Tx.glo_square_length (T : Tx w K mg) : mg "square_length" = some (.ref (He.ga K "square_length")) := T.glo 61
theorem Tx.glo_box_size (T : Tx w K mg) : mg "box_size" = some (.ref (He.ga K "box_size")) := T.glo 62
theorem Tx.glo_pull_over (T : Tx w K mg) : mg "pull_over" = some (.ref (He.ga K "pull_over")) := T.glo 63
theorem Tx.glo_push_at (T : Tx w K mg) : mg "push_at" = some (.ref (He.ga K "push_at")) := T.glo 64
theorem Tx.glo_State (T : Tx w K mg) : mg "State" = some (.ref (He.ga K "State")) := T.glo 65
theorem Tx.glo_put (T : Tx w K mg) : mg "put" = some (.ref (He.ga K "put")) := T.glo 66
theorem Tx.glo_split (T : Tx w K mg) : mg "split" = some (.ref (He.ga K "split")) := T.glo 67
theorem Tx.glo_parts_of (T : Tx w K mg) : mg "parts_of" = some (.ref (He.ga K "parts_of")) := T.glo 68
theorem Tx.glo_state_inside (T : Tx w K mg) : mg "state_inside" = some (.ref (He.ga K "state_inside")) := T.glo 69
theorem Tx.glo_state_has (T : Tx w K mg) : mg "state_has" = some (.ref (He.ga K "state_has")) := T.glo 70
theorem Tx.glo_step (T : Tx w K mg) : mg "step" = some (.ref (He.ga K "step")) := T.glo 71
theorem Tx.glo_cut (T : Tx w K mg) : mg "cut" = some (.ref (He.ga K "cut")) := T.glo 72
theorem Tx.glo_Moment (T : Tx w K mg) : mg "Moment" = some (.ref (He.ga K "Moment")) := T.glo 73
theorem Tx.glo_Journey (T : Tx w K mg) : mg "Journey" = some (.ref (He.ga K "Journey")) := T.glo 74
theorem Tx.glo_sighting_at (T : Tx w K mg) : mg "sighting_at" = some (.ref (He.ga K "sighting_at")) := T.glo 75
theorem Tx.glo_cut_all (T : Tx w K mg) : mg "cut_all" = some (.ref (He.ga K "cut_all")) := T.glo 76
theorem Tx.glo_step_all (T : Tx w K mg) : mg "step_all" = some (.ref (He.ga K "step_all")) := T.glo 77
theorem Tx.glo_first_states (T : Tx w K mg) : mg "first_states" = some (.ref (He.ga K "first_states")) := T.glo 78
theorem Tx.glo_journey (T : Tx w K mg) : mg "journey" = some (.ref (He.ga K "journey")) := T.glo 79
theorem Tx.glo_gap (T : Tx w K mg) : mg "gap" = some (.ref (He.ga K "gap")) := T.glo 80
theorem Tx.glo_root_up (T : Tx w K mg) : mg "root_up" = some (.ref (He.ga K "root_up")) := T.glo 81
theorem Tx.glo_verdict_of (T : Tx w K mg) : mg "verdict_of" = some (.ref (He.ga K "verdict_of")) := T.glo 82
theorem Tx.glo_broken_word (T : Tx w K mg) : mg "broken_word" = some (.ref (He.ga K "broken_word")) := T.glo 83
theorem Tx.glo_ticks_of (T : Tx w K mg) : mg "ticks_of" = some (.ref (He.ga K "ticks_of")) := T.glo 84
theorem Tx.glo_told (T : Tx w K mg) : mg "told" = some (.ref (He.ga K "told")) := T.glo 85
theorem Tx.glo_meeting (T : Tx w K mg) : mg "meeting" = some (.ref (He.ga K "meeting")) := T.glo 86
theorem Tx.glo_Certificate (T : Tx w K mg) : mg "Certificate" = some (.ref (He.ga K "Certificate")) := T.glo 87
theorem Tx.glo_certify (T : Tx w K mg) : mg "certify" = some (.ref (He.ga K "certify")) := T.glo 88
theorem Tx.glo_held (T : Tx w K mg) : mg "held" = some (.ref (He.ga K "held")) := T.glo 89
theorem Tx.glo_start_holds (T : Tx w K mg) : mg "start_holds" = some (.ref (He.ga K "start_holds")) := T.glo 90
theorem Tx.glo_step_holds (T : Tx w K mg) : mg "step_holds" = some (.ref (He.ga K "step_holds")) := T.glo 91
theorem Tx.glo_refused_at (T : Tx w K mg) : mg "refused_at" = some (.ref (He.ga K "refused_at")) := T.glo 92
theorem Tx.glo_Piece (T : Tx w K mg) : mg "Piece" = some (.ref (He.ga K "Piece")) := T.glo 93
theorem Tx.glo_Course (T : Tx w K mg) : mg "Course" = some (.ref (He.ga K "Course")) := T.glo 94
theorem Tx.glo_next_rows (T : Tx w K mg) : mg "next_rows" = some (.ref (He.ga K "next_rows")) := T.glo 95
theorem Tx.glo_course (T : Tx w K mg) : mg "course" = some (.ref (He.ga K "course")) := T.glo 96
theorem Tx.glo__law_row (T : Tx w K mg) : mg "_law_row" = some (.ref (He.ga K "_law_row")) := T.glo 97
theorem Tx.glo__law_spread (T : Tx w K mg) : mg "_law_spread" = some (.ref (He.ga K "_law_spread")) := T.glo 98
theorem Tx.glo__law_box (T : Tx w K mg) : mg "_law_box" = some (.ref (He.ga K "_law_box")) := T.glo 99
theorem Tx.glo__law_member (T : Tx w K mg) : mg "_law_member" = some (.ref (He.ga K "_law_member")) := T.glo 100
theorem Tx.glo__law_root (T : Tx w K mg) : mg "_law_root" = some (.ref (He.ga K "_law_root")) := T.glo 101
theorem Tx.glo__law_pull (T : Tx w K mg) : mg "_law_pull" = some (.ref (He.ga K "_law_pull")) := T.glo 102
theorem Tx.glo__law_push (T : Tx w K mg) : mg "_law_push" = some (.ref (He.ga K "_law_push")) := T.glo 103
theorem Tx.glo__law_world (T : Tx w K mg) : mg "_law_world" = some (.ref (He.ga K "_law_world")) := T.glo 104
theorem Tx.glo__law_motion (T : Tx w K mg) : mg "_law_motion" = some (.ref (He.ga K "_law_motion")) := T.glo 105
theorem Tx.glo__law_seen (T : Tx w K mg) : mg "_law_seen" = some (.ref (He.ga K "_law_seen")) := T.glo 106
theorem Tx.glo__law_craft (T : Tx w K mg) : mg "_law_craft" = some (.ref (He.ga K "_law_craft")) := T.glo 107
theorem Tx.glo__law_in (T : Tx w K mg) : mg "_law_in" = some (.ref (He.ga K "_law_in")) := T.glo 108
theorem Tx.glo__law_two (T : Tx w K mg) : mg "_law_two" = some (.ref (He.ga K "_law_two")) := T.glo 109
theorem Tx.glo__law_held (T : Tx w K mg) : mg "_law_held" = some (.ref (He.ga K "_law_held")) := T.glo 110
theorem Tx.glo__law_course_holds (T : Tx w K mg) : mg "_law_course_holds" = some (.ref (He.ga K "_law_course_holds")) := T.glo 111
theorem Tx.glo__law_paper_holds (T : Tx w K mg) : mg "_law_paper_holds" = some (.ref (He.ga K "_law_paper_holds")) := T.glo 112
theorem Tx.glo__law_meeting_true (T : Tx w K mg) : mg "_law_meeting_true" = some (.ref (He.ga K "_law_meeting_true")) := T.glo 113
theorem Tx.glo__law_seen_edit (T : Tx w K mg) : mg "_law_seen_edit" = some (.ref (He.ga K "_law_seen_edit")) := T.glo 114
theorem Tx.glo__law_edit (T : Tx w K mg) : mg "_law_edit" = some (.ref (He.ga K "_law_edit")) := T.glo 115
theorem Tx.glo_law (T : Tx w K mg) : mg "law" = some (.ref (He.ga K "law")) := T.glo 116
theorem Tx.free_len (T : Tx w K mg) : mg "len" = none := T.free 117
theorem Tx.free_int (T : Tx w K mg) : mg "int" = none := T.free 118
theorem Tx.free_range (T : Tx w K mg) : mg "range" = none := T.free 119
theorem Tx.free_tuple (T : Tx w K mg) : mg "tuple" = none := T.free 120
theorem Tx.free_list (T : Tx w K mg) : mg "list" = none := T.free 121
theorem Tx.free_min (T : Tx w K mg) : mg "min" = none := T.free 122
theorem Tx.free_max (T : Tx w K mg) : mg "max" = none := T.free 123
theorem Tx.free_sum (T : Tx w K mg) : mg "sum" = none := T.free 124
theorem Tx.free_abs (T : Tx w K mg) : mg "abs" = none := T.free 125
theorem Tx.free_zip (T : Tx w K mg) : mg "zip" = none := T.free 126
theorem Tx.free_super (T : Tx w K mg) : mg "super" = none := T.free 127
theorem Tx.free_str (T : Tx w K mg) : mg "str" = none := T.free 128
theorem Tx.int_LAST_TICK (T : Tx w K mg) : ∃ t, mg "LAST_TICK" = some (.int 100000 t) := T.int 129
theorem Tx.int_MOST (T : Tx w K mg) : ∃ t, mg "MOST" = some (.int (10 ^ 15) t) := T.int 130
theorem Tx.int_MOST_DRIFT (T : Tx w K mg) : ∃ t, mg "MOST_DRIFT" = some (.int (10 ^ 12) t) := T.int 131
theorem Tx.int_MOST_CRAFT (T : Tx w K mg) : ∃ t, mg "MOST_CRAFT" = some (.int 20 t) := T.int 132
theorem Tx.int_MOST_OF_CRAFT (T : Tx w K mg) : ∃ t, mg "MOST_OF_CRAFT" = some (.int 20 t) := T.int 133
theorem Tx.int_KEPT (T : Tx w K mg) : ∃ t, mg "KEPT" = some (.int 100 t) := T.int 134
theorem Tx.int_LIMIT (T : Tx w K mg) : ∃ t, mg "LIMIT" = some (.int (10 ^ 40) t) := T.int 135
theorem Tx.cls_Body (T : Tx w K mg) : Cls K (He.ga K "Body") := T.cls 136
theorem Tx.mkr_Body (T : Tx w K mg) : Mk K (He.ga K "Body") (He.ma K (He.ga K "Body") "__init__") := T.mkr 137
theorem Tx.noat_Body_mu (T : Tx w K mg) : NoAttr K (He.ga K "Body") "mu" := T.noat 138
theorem Tx.noat_Body_oblateness (T : Tx w K mg) : NoAttr K (He.ga K "Body") "oblateness" := T.noat 139
theorem Tx.noat_Body_turn (T : Tx w K mg) : NoAttr K (He.ga K "Body") "turn" := T.noat 140
theorem Tx.cls_Burn (T : Tx w K mg) : Cls K (He.ga K "Burn") := T.cls 141
theorem Tx.mkr_Burn (T : Tx w K mg) : Mk K (He.ga K "Burn") (He.ma K (He.ga K "Burn") "__init__") := T.mkr 142
theorem Tx.noat_Burn_begin (T : Tx w K mg) : NoAttr K (He.ga K "Burn") "begin" := T.noat 143
theorem Tx.noat_Burn_end (T : Tx w K mg) : NoAttr K (He.ga K "Burn") "end" := T.noat 144
theorem Tx.noat_Burn_push (T : Tx w K mg) : NoAttr K (He.ga K "Burn") "push" := T.noat 145
theorem Tx.cls_Sighting (T : Tx w K mg) : Cls K (He.ga K "Sighting") := T.cls 146
theorem Tx.mkr_Sighting (T : Tx w K mg) : Mk K (He.ga K "Sighting") (He.ma K (He.ga K "Sighting") "__init__") := T.mkr 147
theorem Tx.noat_Sighting_at (T : Tx w K mg) : NoAttr K (He.ga K "Sighting") "at" := T.noat 148
theorem Tx.noat_Sighting_place (T : Tx w K mg) : NoAttr K (He.ga K "Sighting") "place" := T.noat 149
theorem Tx.cls_Craft (T : Tx w K mg) : Cls K (He.ga K "Craft") := T.cls 150
theorem Tx.mkr_Craft (T : Tx w K mg) : Mk K (He.ga K "Craft") (He.ma K (He.ga K "Craft") "__init__") := T.mkr 151
theorem Tx.noat_Craft_name (T : Tx w K mg) : NoAttr K (He.ga K "Craft") "name" := T.noat 152
theorem Tx.noat_Craft_start (T : Tx w K mg) : NoAttr K (He.ga K "Craft") "start" := T.noat 153
theorem Tx.noat_Craft_place (T : Tx w K mg) : NoAttr K (He.ga K "Craft") "place" := T.noat 154
theorem Tx.noat_Craft_speed (T : Tx w K mg) : NoAttr K (He.ga K "Craft") "speed" := T.noat 155
theorem Tx.noat_Craft_drift (T : Tx w K mg) : NoAttr K (He.ga K "Craft") "drift" := T.noat 156
theorem Tx.noat_Craft_burns (T : Tx w K mg) : NoAttr K (He.ga K "Craft") "burns" := T.noat 157
theorem Tx.noat_Craft_sightings (T : Tx w K mg) : NoAttr K (He.ga K "Craft") "sightings" := T.noat 158
theorem Tx.cls_Contents (T : Tx w K mg) : Cls K (He.ga K "Contents") := T.cls 159
theorem Tx.mkr_Contents (T : Tx w K mg) : Mk K (He.ga K "Contents") (He.ma K (He.ga K "Contents") "__init__") := T.mkr 160
theorem Tx.noat_Contents_body (T : Tx w K mg) : NoAttr K (He.ga K "Contents") "body" := T.noat 161
theorem Tx.noat_Contents_stride (T : Tx w K mg) : NoAttr K (He.ga K "Contents") "stride" := T.noat 162
theorem Tx.noat_Contents_fineness (T : Tx w K mg) : NoAttr K (He.ga K "Contents") "fineness" := T.noat 163
theorem Tx.noat_Contents_crafts (T : Tx w K mg) : NoAttr K (He.ga K "Contents") "crafts" := T.noat 164
theorem Tx.noat_Contents_sites (T : Tx w K mg) : NoAttr K (He.ga K "Contents") "sites" := T.noat 165
theorem Tx.cls_Catalogue (T : Tx w K mg) : Cls K (He.ga K "Catalogue") := T.cls 166
theorem Tx.mkr_Catalogue (T : Tx w K mg) : Mk K (He.ga K "Catalogue") (He.ma K (He.ga K "Catalogue") "__init__") := T.mkr 167
theorem Tx.noat_Catalogue_contents (T : Tx w K mg) : NoAttr K (He.ga K "Catalogue") "contents" := T.noat 168
theorem Tx.noat_Catalogue_version (T : Tx w K mg) : NoAttr K (He.ga K "Catalogue") "version" := T.noat 169
theorem Tx.noat_Catalogue_earlier (T : Tx w K mg) : NoAttr K (He.ga K "Catalogue") "earlier" := T.noat 170
theorem Tx.meth_Catalogue_edit (T : Tx w K mg) : Meth K (He.ga K "Catalogue") "edit" (He.ma K (He.ga K "Catalogue") "edit") := T.meth 171
theorem Tx.meth_Catalogue_undo (T : Tx w K mg) : Meth K (He.ga K "Catalogue") "undo" (He.ma K (He.ga K "Catalogue") "undo") := T.meth 172
theorem Tx.cls_State (T : Tx w K mg) : Cls K (He.ga K "State") := T.cls 173
theorem Tx.mkr_State (T : Tx w K mg) : Mk K (He.ga K "State") (He.ma K (He.ga K "State") "__init__") := T.mkr 174
theorem Tx.noat_State_place (T : Tx w K mg) : NoAttr K (He.ga K "State") "place" := T.noat 175
theorem Tx.noat_State_speed (T : Tx w K mg) : NoAttr K (He.ga K "State") "speed" := T.noat 176
theorem Tx.cls_Moment (T : Tx w K mg) : Cls K (He.ga K "Moment") := T.cls 177
theorem Tx.mkr_Moment (T : Tx w K mg) : Mk K (He.ga K "Moment") (He.ma K (He.ga K "Moment") "__init__") := T.mkr 178
theorem Tx.noat_Moment_at (T : Tx w K mg) : NoAttr K (He.ga K "Moment") "at" := T.noat 179
theorem Tx.noat_Moment_states (T : Tx w K mg) : NoAttr K (He.ga K "Moment") "states" := T.noat 180
theorem Tx.cls_Journey (T : Tx w K mg) : Cls K (He.ga K "Journey") := T.cls 181
theorem Tx.mkr_Journey (T : Tx w K mg) : Mk K (He.ga K "Journey") (He.ma K (He.ga K "Journey") "__init__") := T.mkr 182
theorem Tx.noat_Journey_moments (T : Tx w K mg) : NoAttr K (He.ga K "Journey") "moments" := T.noat 183
theorem Tx.noat_Journey_ending (T : Tx w K mg) : NoAttr K (He.ga K "Journey") "ending" := T.noat 184
theorem Tx.noat_Journey_broken (T : Tx w K mg) : NoAttr K (He.ga K "Journey") "broken" := T.noat 185
theorem Tx.meth_Journey_moment (T : Tx w K mg) : Meth K (He.ga K "Journey") "moment" (He.ma K (He.ga K "Journey") "moment") := T.meth 186
theorem Tx.cls_Certificate (T : Tx w K mg) : Cls K (He.ga K "Certificate") := T.cls 187
theorem Tx.mkr_Certificate (T : Tx w K mg) : Mk K (He.ga K "Certificate") (He.ma K (He.ga K "Certificate") "__init__") := T.mkr 188
theorem Tx.noat_Certificate_body (T : Tx w K mg) : NoAttr K (He.ga K "Certificate") "body" := T.noat 189
theorem Tx.noat_Certificate_fineness (T : Tx w K mg) : NoAttr K (He.ga K "Certificate") "fineness" := T.noat 190
theorem Tx.noat_Certificate_craft (T : Tx w K mg) : NoAttr K (He.ga K "Certificate") "craft" := T.noat 191
theorem Tx.noat_Certificate_claims (T : Tx w K mg) : NoAttr K (He.ga K "Certificate") "claims" := T.noat 192
theorem Tx.cls_Piece (T : Tx w K mg) : Cls K (He.ga K "Piece") := T.cls 193
theorem Tx.mkr_Piece (T : Tx w K mg) : Mk K (He.ga K "Piece") (He.ma K (He.ga K "Piece") "__init__") := T.mkr 194
theorem Tx.noat_Piece_begin (T : Tx w K mg) : NoAttr K (He.ga K "Piece") "begin" := T.noat 195
theorem Tx.noat_Piece_end (T : Tx w K mg) : NoAttr K (He.ga K "Piece") "end" := T.noat 196
theorem Tx.noat_Piece_parts (T : Tx w K mg) : NoAttr K (He.ga K "Piece") "parts" := T.noat 197
theorem Tx.cls_Course (T : Tx w K mg) : Cls K (He.ga K "Course") := T.cls 198
theorem Tx.mkr_Course (T : Tx w K mg) : Mk K (He.ga K "Course") (He.ma K (He.ga K "Course") "__init__") := T.mkr 199
theorem Tx.noat_Course_pieces (T : Tx w K mg) : NoAttr K (He.ga K "Course") "pieces" := T.noat 200
theorem Tx.noat_Course_ending (T : Tx w K mg) : NoAttr K (He.ga K "Course") "ending" := T.noat 201
theorem Tx.fn_find_named (T : Tx w K mg) : ∃ fd, FunD K "find_named" "find_named" (defArgs st_find_named) (defBody st_find_named) (defScope st_find_named) [] [] (He.ga K "find_named") fd := T.def_ 0
theorem Tx.fn_put_named (T : Tx w K mg) : ∃ fd, FunD K "put_named" "put_named" (defArgs st_put_named) (defBody st_put_named) (defScope st_put_named) [] [] (He.ga K "put_named") fd := T.def_ 1
theorem Tx.fn_drop_named (T : Tx w K mg) : ∃ fd, FunD K "drop_named" "drop_named" (defArgs st_drop_named) (defBody st_drop_named) (defScope st_drop_named) [] [] (He.ga K "drop_named") fd := T.def_ 2
theorem Tx.fn_craft_of (T : Tx w K mg) : ∃ fd, FunD K "craft_of" "craft_of" (defArgs st_craft_of) (defBody st_craft_of) (defScope st_craft_of) [] [] (He.ga K "craft_of") fd := T.def_ 3
theorem Tx.fn_check (T : Tx w K mg) : ∃ fd, FunD K "check" "check" (defArgs st_check) (defBody st_check) (defScope st_check) [] [] (He.ga K "check") fd := T.def_ 4
theorem Tx.fn_is_name (T : Tx w K mg) : ∃ fd, FunD K "is_name" "is_name" (defArgs st_is_name) (defBody st_is_name) (defScope st_is_name) [] [] (He.ga K "is_name") fd := T.def_ 5
theorem Tx.fn_is_tick (T : Tx w K mg) : ∃ fd, FunD K "is_tick" "is_tick" (defArgs st_is_tick) (defBody st_is_tick) (defScope st_is_tick) [] [] (He.ga K "is_tick") fd := T.def_ 6
theorem Tx.fn_is_box (T : Tx w K mg) : ∃ fd, FunD K "is_box" "is_box" (defArgs st_is_box) (defBody st_is_box) (defScope st_is_box) [] [] (He.ga K "is_box") fd := T.def_ 7
theorem Tx.fn_Body_init (T : Tx w K mg) : ∃ fd, FunD K "__init__" "Body.__init__" (defArgs st_Body_init) (defBody st_Body_init) (defScope st_Body_init) [] [] (He.ma K (He.ga K "Body") "__init__") fd := T.def_ 8
theorem Tx.fn_Burn_init (T : Tx w K mg) : ∃ fd, FunD K "__init__" "Burn.__init__" (defArgs st_Burn_init) (defBody st_Burn_init) (defScope st_Burn_init) [] [] (He.ma K (He.ga K "Burn") "__init__") fd := T.def_ 9
theorem Tx.fn_Sighting_init (T : Tx w K mg) : ∃ fd, FunD K "__init__" "Sighting.__init__" (defArgs st_Sighting_init) (defBody st_Sighting_init) (defScope st_Sighting_init) [] [] (He.ma K (He.ga K "Sighting") "__init__") fd := T.def_ 10
theorem Tx.fn_Craft_init (T : Tx w K mg) : ∃ fd, FunD K "__init__" "Craft.__init__" (defArgs st_Craft_init) (defBody st_Craft_init) (defScope st_Craft_init) [.ref (dCraft 0 K), .ref (dCraft 1 K)] [] (He.ma K (He.ga K "Craft") "__init__") fd := T.def_ 11
theorem Tx.fn_Contents_init (T : Tx w K mg) : ∃ fd, FunD K "__init__" "Contents.__init__" (defArgs st_Contents_init) (defBody st_Contents_init) (defScope st_Contents_init) [.ref (dConts 0 K), .ref (dConts 1 K)] [] (He.ma K (He.ga K "Contents") "__init__") fd := T.def_ 12
theorem Tx.fn_same_craft (T : Tx w K mg) : ∃ fd, FunD K "same_craft" "same_craft" (defArgs st_same_craft) (defBody st_same_craft) (defScope st_same_craft) [] [] (He.ga K "same_craft") fd := T.def_ 13
theorem Tx.fn_craft_data (T : Tx w K mg) : ∃ fd, FunD K "craft_data" "craft_data" (defArgs st_craft_data) (defBody st_craft_data) (defScope st_craft_data) [] [] (He.ga K "craft_data") fd := T.def_ 14
theorem Tx.fn_body_data (T : Tx w K mg) : ∃ fd, FunD K "body_data" "body_data" (defArgs st_body_data) (defBody st_body_data) (defScope st_body_data) [] [] (He.ga K "body_data") fd := T.def_ 15
theorem Tx.fn_entries (T : Tx w K mg) : ∃ fd, FunD K "entries" "entries" (defArgs st_entries) (defBody st_entries) (defScope st_entries) [] [] (He.ga K "entries") fd := T.def_ 16
theorem Tx.fn_first_difference (T : Tx w K mg) : ∃ fd, FunD K "first_difference" "first_difference" (defArgs st_first_difference) (defBody st_first_difference) (defScope st_first_difference) [] [] (He.ga K "first_difference") fd := T.def_ 17
theorem Tx.fn_touched_at (T : Tx w K mg) : ∃ fd, FunD K "touched_at" "touched_at" (defArgs st_touched_at) (defBody st_touched_at) (defScope st_touched_at) [] [] (He.ga K "touched_at") fd := T.def_ 18
theorem Tx.fn_rules_differ (T : Tx w K mg) : ∃ fd, FunD K "rules_differ" "rules_differ" (defArgs st_rules_differ) (defBody st_rules_differ) (defScope st_rules_differ) [] [] (He.ga K "rules_differ") fd := T.def_ 19
theorem Tx.fn_touched_crafts (T : Tx w K mg) : ∃ fd, FunD K "touched_crafts" "touched_crafts" (defArgs st_touched_crafts) (defBody st_touched_crafts) (defScope st_touched_crafts) [] [] (He.ga K "touched_crafts") fd := T.def_ 20
theorem Tx.fn_touched_sites (T : Tx w K mg) : ∃ fd, FunD K "touched_sites" "touched_sites" (defArgs st_touched_sites) (defBody st_touched_sites) (defScope st_touched_sites) [] [] (He.ga K "touched_sites") fd := T.def_ 21
theorem Tx.fn_gone (T : Tx w K mg) : ∃ fd, FunD K "gone" "gone" (defArgs st_gone) (defBody st_gone) (defScope st_gone) [] [] (He.ga K "gone") fd := T.def_ 22
theorem Tx.fn_differences (T : Tx w K mg) : ∃ fd, FunD K "differences" "differences" (defArgs st_differences) (defBody st_differences) (defScope st_differences) [] [] (He.ga K "differences") fd := T.def_ 23
theorem Tx.fn_with_crafts (T : Tx w K mg) : ∃ fd, FunD K "with_crafts" "with_crafts" (defArgs st_with_crafts) (defBody st_with_crafts) (defScope st_with_crafts) [] [] (He.ga K "with_crafts") fd := T.def_ 24
theorem Tx.fn_changed_craft (T : Tx w K mg) : ∃ fd, FunD K "changed_craft" "changed_craft" (defArgs st_changed_craft) (defBody st_changed_craft) (defScope st_changed_craft) [] [] (He.ga K "changed_craft") fd := T.def_ 25
theorem Tx.fn_add_craft (T : Tx w K mg) : ∃ fd, FunD K "add_craft" "add_craft" (defArgs st_add_craft) (defBody st_add_craft) (defScope st_add_craft) [] [] (He.ga K "add_craft") fd := T.def_ 26
theorem Tx.fn_drop_craft (T : Tx w K mg) : ∃ fd, FunD K "drop_craft" "drop_craft" (defArgs st_drop_craft) (defBody st_drop_craft) (defScope st_drop_craft) [] [] (He.ga K "drop_craft") fd := T.def_ 27
theorem Tx.fn_set_drift (T : Tx w K mg) : ∃ fd, FunD K "set_drift" "set_drift" (defArgs st_set_drift) (defBody st_set_drift) (defScope st_set_drift) [] [] (He.ga K "set_drift") fd := T.def_ 28
theorem Tx.fn_add_burn (T : Tx w K mg) : ∃ fd, FunD K "add_burn" "add_burn" (defArgs st_add_burn) (defBody st_add_burn) (defScope st_add_burn) [] [] (He.ga K "add_burn") fd := T.def_ 29
theorem Tx.fn_add_sighting (T : Tx w K mg) : ∃ fd, FunD K "add_sighting" "add_sighting" (defArgs st_add_sighting) (defBody st_add_sighting) (defScope st_add_sighting) [] [] (He.ga K "add_sighting") fd := T.def_ 30
theorem Tx.fn_drop_sighting (T : Tx w K mg) : ∃ fd, FunD K "drop_sighting" "drop_sighting" (defArgs st_drop_sighting) (defBody st_drop_sighting) (defScope st_drop_sighting) [] [] (He.ga K "drop_sighting") fd := T.def_ 31
theorem Tx.fn_set_stride (T : Tx w K mg) : ∃ fd, FunD K "set_stride" "set_stride" (defArgs st_set_stride) (defBody st_set_stride) (defScope st_set_stride) [] [] (He.ga K "set_stride") fd := T.def_ 32
theorem Tx.fn_set_fineness (T : Tx w K mg) : ∃ fd, FunD K "set_fineness" "set_fineness" (defArgs st_set_fineness) (defBody st_set_fineness) (defScope st_set_fineness) [] [] (He.ga K "set_fineness") fd := T.def_ 33
theorem Tx.fn_apply_edit (T : Tx w K mg) : ∃ fd, FunD K "apply_edit" "apply_edit" (defArgs st_apply_edit) (defBody st_apply_edit) (defScope st_apply_edit) [] [] (He.ga K "apply_edit") fd := T.def_ 34
theorem Tx.fn_Catalogue_init (T : Tx w K mg) : ∃ fd, FunD K "__init__" "Catalogue.__init__" (defArgs st_Catalogue_init) (defBody st_Catalogue_init) (defScope st_Catalogue_init) [] [] (He.ma K (He.ga K "Catalogue") "__init__") fd := T.def_ 35
theorem Tx.fn_Catalogue_edit (T : Tx w K mg) : ∃ fd, FunD K "edit" "Catalogue.edit" (defArgs st_Catalogue_edit) (defBody st_Catalogue_edit) (defScope st_Catalogue_edit) [] [] (He.ma K (He.ga K "Catalogue") "edit") fd := T.def_ 36
theorem Tx.fn_Catalogue_undo (T : Tx w K mg) : ∃ fd, FunD K "undo" "Catalogue.undo" (defArgs st_Catalogue_undo) (defBody st_Catalogue_undo) (defScope st_Catalogue_undo) [] [] (He.ma K (He.ga K "Catalogue") "undo") fd := T.def_ 37
theorem Tx.fn_add (T : Tx w K mg) : ∃ fd, FunD K "add" "add" (defArgs st_add) (defBody st_add) (defScope st_add) [] [] (He.ga K "add") fd := T.def_ 38
theorem Tx.fn_subtract (T : Tx w K mg) : ∃ fd, FunD K "subtract" "subtract" (defArgs st_subtract) (defBody st_subtract) (defScope st_subtract) [] [] (He.ga K "subtract") fd := T.def_ 39
theorem Tx.fn_scaled (T : Tx w K mg) : ∃ fd, FunD K "scaled" "scaled" (defArgs st_scaled) (defBody st_scaled) (defScope st_scaled) [] [] (He.ga K "scaled") fd := T.def_ 40
theorem Tx.fn_multiply (T : Tx w K mg) : ∃ fd, FunD K "multiply" "multiply" (defArgs st_multiply) (defBody st_multiply) (defScope st_multiply) [] [] (He.ga K "multiply") fd := T.def_ 41
theorem Tx.fn_square (T : Tx w K mg) : ∃ fd, FunD K "square" "square" (defArgs st_square) (defBody st_square) (defScope st_square) [] [] (He.ga K "square") fd := T.def_ 42
theorem Tx.fn_quotient (T : Tx w K mg) : ∃ fd, FunD K "quotient" "quotient" (defArgs st_quotient) (defBody st_quotient) (defScope st_quotient) [] [] (He.ga K "quotient") fd := T.def_ 43
theorem Tx.fn_root (T : Tx w K mg) : ∃ fd, FunD K "root" "root" (defArgs st_root) (defBody st_root) (defScope st_root) [] [] (He.ga K "root") fd := T.def_ 44
theorem Tx.fn_meet (T : Tx w K mg) : ∃ fd, FunD K "meet" "meet" (defArgs st_meet) (defBody st_meet) (defScope st_meet) [] [] (He.ga K "meet") fd := T.def_ 45
theorem Tx.fn_hull (T : Tx w K mg) : ∃ fd, FunD K "hull" "hull" (defArgs st_hull) (defBody st_hull) (defScope st_hull) [] [] (He.ga K "hull") fd := T.def_ 46
theorem Tx.fn_widened (T : Tx w K mg) : ∃ fd, FunD K "widened" "widened" (defArgs st_widened) (defBody st_widened) (defScope st_widened) [] [] (He.ga K "widened") fd := T.def_ 47
theorem Tx.fn_middle (T : Tx w K mg) : ∃ fd, FunD K "middle" "middle" (defArgs st_middle) (defBody st_middle) (defScope st_middle) [] [] (He.ga K "middle") fd := T.def_ 48
theorem Tx.fn_width (T : Tx w K mg) : ∃ fd, FunD K "width" "width" (defArgs st_width) (defBody st_width) (defScope st_width) [] [] (He.ga K "width") fd := T.def_ 49
theorem Tx.fn_size (T : Tx w K mg) : ∃ fd, FunD K "size" "size" (defArgs st_size) (defBody st_size) (defScope st_size) [] [] (He.ga K "size") fd := T.def_ 50
theorem Tx.fn_inside (T : Tx w K mg) : ∃ fd, FunD K "inside" "inside" (defArgs st_inside) (defBody st_inside) (defScope st_inside) [] [] (He.ga K "inside") fd := T.def_ 51
theorem Tx.fn_has (T : Tx w K mg) : ∃ fd, FunD K "has" "has" (defArgs st_has) (defBody st_has) (defScope st_has) [] [] (He.ga K "has") fd := T.def_ 52
theorem Tx.fn_box_add (T : Tx w K mg) : ∃ fd, FunD K "box_add" "box_add" (defArgs st_box_add) (defBody st_box_add) (defScope st_box_add) [] [] (He.ga K "box_add") fd := T.def_ 53
theorem Tx.fn_box_subtract (T : Tx w K mg) : ∃ fd, FunD K "box_subtract" "box_subtract" (defArgs st_box_subtract) (defBody st_box_subtract) (defScope st_box_subtract) [] [] (He.ga K "box_subtract") fd := T.def_ 54
theorem Tx.fn_box_hull (T : Tx w K mg) : ∃ fd, FunD K "box_hull" "box_hull" (defArgs st_box_hull) (defBody st_box_hull) (defScope st_box_hull) [] [] (He.ga K "box_hull") fd := T.def_ 55
theorem Tx.fn_box_widened (T : Tx w K mg) : ∃ fd, FunD K "box_widened" "box_widened" (defArgs st_box_widened) (defBody st_box_widened) (defScope st_box_widened) [] [] (He.ga K "box_widened") fd := T.def_ 56
theorem Tx.fn_box_meet (T : Tx w K mg) : ∃ fd, FunD K "box_meet" "box_meet" (defArgs st_box_meet) (defBody st_box_meet) (defScope st_box_meet) [] [] (He.ga K "box_meet") fd := T.def_ 57
theorem Tx.fn_box_inside (T : Tx w K mg) : ∃ fd, FunD K "box_inside" "box_inside" (defArgs st_box_inside) (defBody st_box_inside) (defScope st_box_inside) [] [] (He.ga K "box_inside") fd := T.def_ 58
theorem Tx.fn_box_has (T : Tx w K mg) : ∃ fd, FunD K "box_has" "box_has" (defArgs st_box_has) (defBody st_box_has) (defScope st_box_has) [] [] (He.ga K "box_has") fd := T.def_ 59
theorem Tx.fn_square_length (T : Tx w K mg) : ∃ fd, FunD K "square_length" "square_length" (defArgs st_square_length) (defBody st_square_length) (defScope st_square_length) [] [] (He.ga K "square_length") fd := T.def_ 60
theorem Tx.fn_box_size (T : Tx w K mg) : ∃ fd, FunD K "box_size" "box_size" (defArgs st_box_size) (defBody st_box_size) (defScope st_box_size) [] [] (He.ga K "box_size") fd := T.def_ 61
theorem Tx.fn_pull_over (T : Tx w K mg) : ∃ fd, FunD K "pull_over" "pull_over" (defArgs st_pull_over) (defBody st_pull_over) (defScope st_pull_over) [] [] (He.ga K "pull_over") fd := T.def_ 62
theorem Tx.fn_push_at (T : Tx w K mg) : ∃ fd, FunD K "push_at" "push_at" (defArgs st_push_at) (defBody st_push_at) (defScope st_push_at) [] [] (He.ga K "push_at") fd := T.def_ 63
theorem Tx.fn_State_init (T : Tx w K mg) : ∃ fd, FunD K "__init__" "State.__init__" (defArgs st_State_init) (defBody st_State_init) (defScope st_State_init) [] [] (He.ma K (He.ga K "State") "__init__") fd := T.def_ 64
theorem Tx.fn_put (T : Tx w K mg) : ∃ fd, FunD K "put" "put" (defArgs st_put) (defBody st_put) (defScope st_put) [] [] (He.ga K "put") fd := T.def_ 65
theorem Tx.fn_split (T : Tx w K mg) : ∃ fd, FunD K "split" "split" (defArgs st_split) (defBody st_split) (defScope st_split) [] [] (He.ga K "split") fd := T.def_ 66
theorem Tx.fn_parts_of (T : Tx w K mg) : ∃ fd, FunD K "parts_of" "parts_of" (defArgs st_parts_of) (defBody st_parts_of) (defScope st_parts_of) [] [] (He.ga K "parts_of") fd := T.def_ 67
theorem Tx.fn_state_inside (T : Tx w K mg) : ∃ fd, FunD K "state_inside" "state_inside" (defArgs st_state_inside) (defBody st_state_inside) (defScope st_state_inside) [] [] (He.ga K "state_inside") fd := T.def_ 68
theorem Tx.fn_state_has (T : Tx w K mg) : ∃ fd, FunD K "state_has" "state_has" (defArgs st_state_has) (defBody st_state_has) (defScope st_state_has) [] [] (He.ga K "state_has") fd := T.def_ 69
theorem Tx.fn_step (T : Tx w K mg) : ∃ fd, FunD K "step" "step" (defArgs st_step) (defBody st_step) (defScope st_step) [] [] (He.ga K "step") fd := T.def_ 70
theorem Tx.fn_cut (T : Tx w K mg) : ∃ fd, FunD K "cut" "cut" (defArgs st_cut) (defBody st_cut) (defScope st_cut) [] [] (He.ga K "cut") fd := T.def_ 71
theorem Tx.fn_Moment_init (T : Tx w K mg) : ∃ fd, FunD K "__init__" "Moment.__init__" (defArgs st_Moment_init) (defBody st_Moment_init) (defScope st_Moment_init) [] [] (He.ma K (He.ga K "Moment") "__init__") fd := T.def_ 72
theorem Tx.fn_Journey_init (T : Tx w K mg) : ∃ fd, FunD K "__init__" "Journey.__init__" (defArgs st_Journey_init) (defBody st_Journey_init) (defScope st_Journey_init) [] [] (He.ma K (He.ga K "Journey") "__init__") fd := T.def_ 73
theorem Tx.fn_Journey_moment (T : Tx w K mg) : ∃ fd, FunD K "moment" "Journey.moment" (defArgs st_Journey_moment) (defBody st_Journey_moment) (defScope st_Journey_moment) [] [] (He.ma K (He.ga K "Journey") "moment") fd := T.def_ 74
theorem Tx.fn_sighting_at (T : Tx w K mg) : ∃ fd, FunD K "sighting_at" "sighting_at" (defArgs st_sighting_at) (defBody st_sighting_at) (defScope st_sighting_at) [] [] (He.ga K "sighting_at") fd := T.def_ 75
theorem Tx.fn_cut_all (T : Tx w K mg) : ∃ fd, FunD K "cut_all" "cut_all" (defArgs st_cut_all) (defBody st_cut_all) (defScope st_cut_all) [] [] (He.ga K "cut_all") fd := T.def_ 76
theorem Tx.fn_step_all (T : Tx w K mg) : ∃ fd, FunD K "step_all" "step_all" (defArgs st_step_all) (defBody st_step_all) (defScope st_step_all) [] [] (He.ga K "step_all") fd := T.def_ 77
theorem Tx.fn_first_states (T : Tx w K mg) : ∃ fd, FunD K "first_states" "first_states" (defArgs st_first_states) (defBody st_first_states) (defScope st_first_states) [] [] (He.ga K "first_states") fd := T.def_ 78
theorem Tx.fn_journey (T : Tx w K mg) : ∃ fd, FunD K "journey" "journey" (defArgs st_journey) (defBody st_journey) (defScope st_journey) [] [] (He.ga K "journey") fd := T.def_ 79
theorem Tx.fn_gap (T : Tx w K mg) : ∃ fd, FunD K "gap" "gap" (defArgs st_gap) (defBody st_gap) (defScope st_gap) [] [] (He.ga K "gap") fd := T.def_ 80
theorem Tx.fn_root_up (T : Tx w K mg) : ∃ fd, FunD K "root_up" "root_up" (defArgs st_root_up) (defBody st_root_up) (defScope st_root_up) [] [] (He.ga K "root_up") fd := T.def_ 81
theorem Tx.fn_verdict_of (T : Tx w K mg) : ∃ fd, FunD K "verdict_of" "verdict_of" (defArgs st_verdict_of) (defBody st_verdict_of) (defScope st_verdict_of) [] [] (He.ga K "verdict_of") fd := T.def_ 82
theorem Tx.fn_broken_word (T : Tx w K mg) : ∃ fd, FunD K "broken_word" "broken_word" (defArgs st_broken_word) (defBody st_broken_word) (defScope st_broken_word) [] [] (He.ga K "broken_word") fd := T.def_ 83
theorem Tx.fn_ticks_of (T : Tx w K mg) : ∃ fd, FunD K "ticks_of" "ticks_of" (defArgs st_ticks_of) (defBody st_ticks_of) (defScope st_ticks_of) [] [] (He.ga K "ticks_of") fd := T.def_ 84
theorem Tx.fn_told (T : Tx w K mg) : ∃ fd, FunD K "told" "told" (defArgs st_told) (defBody st_told) (defScope st_told) [] [] (He.ga K "told") fd := T.def_ 85
theorem Tx.fn_meeting (T : Tx w K mg) : ∃ fd, FunD K "meeting" "meeting" (defArgs st_meeting) (defBody st_meeting) (defScope st_meeting) [] [] (He.ga K "meeting") fd := T.def_ 86
theorem Tx.fn_Certificate_init (T : Tx w K mg) : ∃ fd, FunD K "__init__" "Certificate.__init__" (defArgs st_Certificate_init) (defBody st_Certificate_init) (defScope st_Certificate_init) [] [] (He.ma K (He.ga K "Certificate") "__init__") fd := T.def_ 87
theorem Tx.fn_certify (T : Tx w K mg) : ∃ fd, FunD K "certify" "certify" (defArgs st_certify) (defBody st_certify) (defScope st_certify) [] [] (He.ga K "certify") fd := T.def_ 88
theorem Tx.fn_held (T : Tx w K mg) : ∃ fd, FunD K "held" "held" (defArgs st_held) (defBody st_held) (defScope st_held) [] [] (He.ga K "held") fd := T.def_ 89
theorem Tx.fn_start_holds (T : Tx w K mg) : ∃ fd, FunD K "start_holds" "start_holds" (defArgs st_start_holds) (defBody st_start_holds) (defScope st_start_holds) [] [] (He.ga K "start_holds") fd := T.def_ 90
theorem Tx.fn_step_holds (T : Tx w K mg) : ∃ fd, FunD K "step_holds" "step_holds" (defArgs st_step_holds) (defBody st_step_holds) (defScope st_step_holds) [] [] (He.ga K "step_holds") fd := T.def_ 91
theorem Tx.fn_refused_at (T : Tx w K mg) : ∃ fd, FunD K "refused_at" "refused_at" (defArgs st_refused_at) (defBody st_refused_at) (defScope st_refused_at) [] [] (He.ga K "refused_at") fd := T.def_ 92
theorem Tx.fn_Piece_init (T : Tx w K mg) : ∃ fd, FunD K "__init__" "Piece.__init__" (defArgs st_Piece_init) (defBody st_Piece_init) (defScope st_Piece_init) [] [] (He.ma K (He.ga K "Piece") "__init__") fd := T.def_ 93
theorem Tx.fn_Course_init (T : Tx w K mg) : ∃ fd, FunD K "__init__" "Course.__init__" (defArgs st_Course_init) (defBody st_Course_init) (defScope st_Course_init) [] [] (He.ma K (He.ga K "Course") "__init__") fd := T.def_ 94
theorem Tx.fn_next_rows (T : Tx w K mg) : ∃ fd, FunD K "next_rows" "next_rows" (defArgs st_next_rows) (defBody st_next_rows) (defScope st_next_rows) [] [] (He.ga K "next_rows") fd := T.def_ 95
theorem Tx.fn_course (T : Tx w K mg) : ∃ fd, FunD K "course" "course" (defArgs st_course) (defBody st_course) (defScope st_course) [] [] (He.ga K "course") fd := T.def_ 96
theorem Tx.fn__law_row (T : Tx w K mg) : ∃ fd, FunD K "_law_row" "_law_row" (defArgs st__law_row) (defBody st__law_row) (defScope st__law_row) [] [] (He.ga K "_law_row") fd := T.def_ 97
theorem Tx.fn__law_spread (T : Tx w K mg) : ∃ fd, FunD K "_law_spread" "_law_spread" (defArgs st__law_spread) (defBody st__law_spread) (defScope st__law_spread) [] [] (He.ga K "_law_spread") fd := T.def_ 98
theorem Tx.fn__law_box (T : Tx w K mg) : ∃ fd, FunD K "_law_box" "_law_box" (defArgs st__law_box) (defBody st__law_box) (defScope st__law_box) [] [] (He.ga K "_law_box") fd := T.def_ 99
theorem Tx.fn__law_member (T : Tx w K mg) : ∃ fd, FunD K "_law_member" "_law_member" (defArgs st__law_member) (defBody st__law_member) (defScope st__law_member) [] [] (He.ga K "_law_member") fd := T.def_ 100
theorem Tx.fn__law_root (T : Tx w K mg) : ∃ fd, FunD K "_law_root" "_law_root" (defArgs st__law_root) (defBody st__law_root) (defScope st__law_root) [] [] (He.ga K "_law_root") fd := T.def_ 101
theorem Tx.fn__law_pull (T : Tx w K mg) : ∃ fd, FunD K "_law_pull" "_law_pull" (defArgs st__law_pull) (defBody st__law_pull) (defScope st__law_pull) [] [] (He.ga K "_law_pull") fd := T.def_ 102
theorem Tx.fn__law_push (T : Tx w K mg) : ∃ fd, FunD K "_law_push" "_law_push" (defArgs st__law_push) (defBody st__law_push) (defScope st__law_push) [] [] (He.ga K "_law_push") fd := T.def_ 103
theorem Tx.fn__law_world (T : Tx w K mg) : ∃ fd, FunD K "_law_world" "_law_world" (defArgs st__law_world) (defBody st__law_world) (defScope st__law_world) [] [] (He.ga K "_law_world") fd := T.def_ 104
theorem Tx.fn__law_motion (T : Tx w K mg) : ∃ fd, FunD K "_law_motion" "_law_motion" (defArgs st__law_motion) (defBody st__law_motion) (defScope st__law_motion) [] [] (He.ga K "_law_motion") fd := T.def_ 105
theorem Tx.fn__law_seen (T : Tx w K mg) : ∃ fd, FunD K "_law_seen" "_law_seen" (defArgs st__law_seen) (defBody st__law_seen) (defScope st__law_seen) [] [] (He.ga K "_law_seen") fd := T.def_ 106
theorem Tx.fn__law_craft (T : Tx w K mg) : ∃ fd, FunD K "_law_craft" "_law_craft" (defArgs st__law_craft) (defBody st__law_craft) (defScope st__law_craft) [] [] (He.ga K "_law_craft") fd := T.def_ 107
theorem Tx.fn__law_in (T : Tx w K mg) : ∃ fd, FunD K "_law_in" "_law_in" (defArgs st__law_in) (defBody st__law_in) (defScope st__law_in) [] [] (He.ga K "_law_in") fd := T.def_ 108
theorem Tx.fn__law_two (T : Tx w K mg) : ∃ fd, FunD K "_law_two" "_law_two" (defArgs st__law_two) (defBody st__law_two) (defScope st__law_two) [] [] (He.ga K "_law_two") fd := T.def_ 109
theorem Tx.fn__law_held (T : Tx w K mg) : ∃ fd, FunD K "_law_held" "_law_held" (defArgs st__law_held) (defBody st__law_held) (defScope st__law_held) [] [] (He.ga K "_law_held") fd := T.def_ 110
theorem Tx.fn__law_course_holds (T : Tx w K mg) : ∃ fd, FunD K "_law_course_holds" "_law_course_holds" (defArgs st__law_course_holds) (defBody st__law_course_holds) (defScope st__law_course_holds) [] [] (He.ga K "_law_course_holds") fd := T.def_ 111
theorem Tx.fn__law_paper_holds (T : Tx w K mg) : ∃ fd, FunD K "_law_paper_holds" "_law_paper_holds" (defArgs st__law_paper_holds) (defBody st__law_paper_holds) (defScope st__law_paper_holds) [] [] (He.ga K "_law_paper_holds") fd := T.def_ 112
theorem Tx.fn__law_meeting_true (T : Tx w K mg) : ∃ fd, FunD K "_law_meeting_true" "_law_meeting_true" (defArgs st__law_meeting_true) (defBody st__law_meeting_true) (defScope st__law_meeting_true) [] [] (He.ga K "_law_meeting_true") fd := T.def_ 113
theorem Tx.fn__law_seen_edit (T : Tx w K mg) : ∃ fd, FunD K "_law_seen_edit" "_law_seen_edit" (defArgs st__law_seen_edit) (defBody st__law_seen_edit) (defScope st__law_seen_edit) [] [] (He.ga K "_law_seen_edit") fd := T.def_ 114
theorem Tx.fn__law_edit (T : Tx w K mg) : ∃ fd, FunD K "_law_edit" "_law_edit" (defArgs st__law_edit) (defBody st__law_edit) (defScope st__law_edit) [] [] (He.ga K "_law_edit") fd := T.def_ 115
theorem Tx.fn_law (T : Tx w K mg) : ∃ fd, FunD K "law" "law" (defArgs st_law) (defBody st_law) (defScope st_law) [] [] (He.ga K "law") fd := T.def_ 116
end
section
variable {X : Cx} {Γ : Gm} {o : Option Own} {e : Expr} {pos : Pos}
theorem f_Body_mu (T : Tx X.w X.K X.mg) {d : Body} (h : PX X e Γ o (is X.K d)) (hb : attributeBase e "mu" X.env (eval e X.env) = eval e X.env := by rfl) : PX X (.Attribute e "mu" pos) Γ o (is X.K d.mu) := x_fld (C := He.ga X.K "Body") (fs := fBody X.K d) h T.cls_Body T.noat_Body_mu (by rfl) hb
theorem f_Body_oblateness (T : Tx X.w X.K X.mg) {d : Body} (h : PX X e Γ o (is X.K d)) (hb : attributeBase e "oblateness" X.env (eval e X.env) = eval e X.env := by rfl) : PX X (.Attribute e "oblateness" pos) Γ o (is X.K d.obl) := x_fld (C := He.ga X.K "Body") (fs := fBody X.K d) h T.cls_Body T.noat_Body_oblateness (by rfl) hb
theorem f_Body_turn (T : Tx X.w X.K X.mg) {d : Body} (h : PX X e Γ o (is X.K d)) (hb : attributeBase e "turn" X.env (eval e X.env) = eval e X.env := by rfl) : PX X (.Attribute e "turn" pos) Γ o (is X.K d.turn) := x_fld (C := He.ga X.K "Body") (fs := fBody X.K d) h T.cls_Body T.noat_Body_turn (by rfl) hb
theorem f_Burn_begin (T : Tx X.w X.K X.mg) {d : Burn} (h : PX X e Γ o (is X.K d)) (hb : attributeBase e "begin" X.env (eval e X.env) = eval e X.env := by rfl) : PX X (.Attribute e "begin" pos) Γ o (is X.K d.b) := x_fld (C := He.ga X.K "Burn") (fs := fBurn X.K d) h T.cls_Burn T.noat_Burn_begin (by rfl) hb
theorem f_Burn_end (T : Tx X.w X.K X.mg) {d : Burn} (h : PX X e Γ o (is X.K d)) (hb : attributeBase e "end" X.env (eval e X.env) = eval e X.env := by rfl) : PX X (.Attribute e "end" pos) Γ o (is X.K d.e) := x_fld (C := He.ga X.K "Burn") (fs := fBurn X.K d) h T.cls_Burn T.noat_Burn_end (by rfl) hb
theorem f_Burn_push (T : Tx X.w X.K X.mg) {d : Burn} (h : PX X e Γ o (is X.K d)) (hb : attributeBase e "push" X.env (eval e X.env) = eval e X.env := by rfl) : PX X (.Attribute e "push" pos) Γ o (is X.K d.push) := x_fld (C := He.ga X.K "Burn") (fs := fBurn X.K d) h T.cls_Burn T.noat_Burn_push (by rfl) hb
theorem f_Sighting_at (T : Tx X.w X.K X.mg) {d : Sight} (h : PX X e Γ o (is X.K d)) (hb : attributeBase e "at" X.env (eval e X.env) = eval e X.env := by rfl) : PX X (.Attribute e "at" pos) Γ o (is X.K d.at_) := x_fld (C := He.ga X.K "Sighting") (fs := fSight X.K d) h T.cls_Sighting T.noat_Sighting_at (by rfl) hb
theorem f_Sighting_place (T : Tx X.w X.K X.mg) {d : Sight} (h : PX X e Γ o (is X.K d)) (hb : attributeBase e "place" X.env (eval e X.env) = eval e X.env := by rfl) : PX X (.Attribute e "place" pos) Γ o (is X.K d.place) := x_fld (C := He.ga X.K "Sighting") (fs := fSight X.K d) h T.cls_Sighting T.noat_Sighting_place (by rfl) hb
theorem f_Craft_name (T : Tx X.w X.K X.mg) {d : Craft} (h : PX X e Γ o (is X.K d)) (hb : attributeBase e "name" X.env (eval e X.env) = eval e X.env := by rfl) : PX X (.Attribute e "name" pos) Γ o (is X.K d.name) := x_fld (C := He.ga X.K "Craft") (fs := fCraft X.K d) h T.cls_Craft T.noat_Craft_name (by rfl) hb
theorem f_Craft_start (T : Tx X.w X.K X.mg) {d : Craft} (h : PX X e Γ o (is X.K d)) (hb : attributeBase e "start" X.env (eval e X.env) = eval e X.env := by rfl) : PX X (.Attribute e "start" pos) Γ o (is X.K d.start) := x_fld (C := He.ga X.K "Craft") (fs := fCraft X.K d) h T.cls_Craft T.noat_Craft_start (by rfl) hb
theorem f_Craft_place (T : Tx X.w X.K X.mg) {d : Craft} (h : PX X e Γ o (is X.K d)) (hb : attributeBase e "place" X.env (eval e X.env) = eval e X.env := by rfl) : PX X (.Attribute e "place" pos) Γ o (is X.K d.place) := x_fld (C := He.ga X.K "Craft") (fs := fCraft X.K d) h T.cls_Craft T.noat_Craft_place (by rfl) hb
theorem f_Craft_speed (T : Tx X.w X.K X.mg) {d : Craft} (h : PX X e Γ o (is X.K d)) (hb : attributeBase e "speed" X.env (eval e X.env) = eval e X.env := by rfl) : PX X (.Attribute e "speed" pos) Γ o (is X.K d.speed) := x_fld (C := He.ga X.K "Craft") (fs := fCraft X.K d) h T.cls_Craft T.noat_Craft_speed (by rfl) hb
theorem f_Craft_drift (T : Tx X.w X.K X.mg) {d : Craft} (h : PX X e Γ o (is X.K d)) (hb : attributeBase e "drift" X.env (eval e X.env) = eval e X.env := by rfl) : PX X (.Attribute e "drift" pos) Γ o (is X.K d.drift) := x_fld (C := He.ga X.K "Craft") (fs := fCraft X.K d) h T.cls_Craft T.noat_Craft_drift (by rfl) hb
theorem f_Craft_burns (T : Tx X.w X.K X.mg) {d : Craft} (h : PX X e Γ o (is X.K d)) (hb : attributeBase e "burns" X.env (eval e X.env) = eval e X.env := by rfl) : PX X (.Attribute e "burns" pos) Γ o (is X.K d.burns) := x_fld (C := He.ga X.K "Craft") (fs := fCraft X.K d) h T.cls_Craft T.noat_Craft_burns (by rfl) hb
theorem f_Craft_sightings (T : Tx X.w X.K X.mg) {d : Craft} (h : PX X e Γ o (is X.K d)) (hb : attributeBase e "sightings" X.env (eval e X.env) = eval e X.env := by rfl) : PX X (.Attribute e "sightings" pos) Γ o (is X.K d.sights) := x_fld (C := He.ga X.K "Craft") (fs := fCraft X.K d) h T.cls_Craft T.noat_Craft_sightings (by rfl) hb
theorem f_Contents_body (T : Tx X.w X.K X.mg) {d : Conts} (h : PX X e Γ o (is X.K d)) (hb : attributeBase e "body" X.env (eval e X.env) = eval e X.env := by rfl) : PX X (.Attribute e "body" pos) Γ o (is X.K d.body) := x_fld (C := He.ga X.K "Contents") (fs := fConts X.K d) h T.cls_Contents T.noat_Contents_body (by rfl) hb
theorem f_Contents_stride (T : Tx X.w X.K X.mg) {d : Conts} (h : PX X e Γ o (is X.K d)) (hb : attributeBase e "stride" X.env (eval e X.env) = eval e X.env := by rfl) : PX X (.Attribute e "stride" pos) Γ o (is X.K d.stride) := x_fld (C := He.ga X.K "Contents") (fs := fConts X.K d) h T.cls_Contents T.noat_Contents_stride (by rfl) hb
theorem f_Contents_fineness (T : Tx X.w X.K X.mg) {d : Conts} (h : PX X e Γ o (is X.K d)) (hb : attributeBase e "fineness" X.env (eval e X.env) = eval e X.env := by rfl) : PX X (.Attribute e "fineness" pos) Γ o (is X.K d.fine) := x_fld (C := He.ga X.K "Contents") (fs := fConts X.K d) h T.cls_Contents T.noat_Contents_fineness (by rfl) hb
theorem f_Contents_crafts (T : Tx X.w X.K X.mg) {d : Conts} (h : PX X e Γ o (is X.K d)) (hb : attributeBase e "crafts" X.env (eval e X.env) = eval e X.env := by rfl) : PX X (.Attribute e "crafts" pos) Γ o (is X.K d.crafts) := x_fld (C := He.ga X.K "Contents") (fs := fConts X.K d) h T.cls_Contents T.noat_Contents_crafts (by rfl) hb
theorem f_Contents_sites (T : Tx X.w X.K X.mg) {d : Conts} (h : PX X e Γ o (is X.K d)) (hb : attributeBase e "sites" X.env (eval e X.env) = eval e X.env := by rfl) : PX X (.Attribute e "sites" pos) Γ o (is X.K d.sites) := x_fld (C := He.ga X.K "Contents") (fs := fConts X.K d) h T.cls_Contents T.noat_Contents_sites (by rfl) hb
theorem f_State_place (T : Tx X.w X.K X.mg) {d : State} (h : PX X e Γ o (is X.K d)) (hb : attributeBase e "place" X.env (eval e X.env) = eval e X.env := by rfl) : PX X (.Attribute e "place" pos) Γ o (is X.K d.place) := x_fld (C := He.ga X.K "State") (fs := fState X.K d) h T.cls_State T.noat_State_place (by rfl) hb
theorem f_State_speed (T : Tx X.w X.K X.mg) {d : State} (h : PX X e Γ o (is X.K d)) (hb : attributeBase e "speed" X.env (eval e X.env) = eval e X.env := by rfl) : PX X (.Attribute e "speed" pos) Γ o (is X.K d.speed) := x_fld (C := He.ga X.K "State") (fs := fState X.K d) h T.cls_State T.noat_State_speed (by rfl) hb
theorem f_Moment_at (T : Tx X.w X.K X.mg) {d : Moment} (h : PX X e Γ o (is X.K d)) (hb : attributeBase e "at" X.env (eval e X.env) = eval e X.env := by rfl) : PX X (.Attribute e "at" pos) Γ o (is X.K d.at_) := x_fld (C := He.ga X.K "Moment") (fs := fMoment X.K d) h T.cls_Moment T.noat_Moment_at (by rfl) hb
theorem f_Moment_states (T : Tx X.w X.K X.mg) {d : Moment} (h : PX X e Γ o (is X.K d)) (hb : attributeBase e "states" X.env (eval e X.env) = eval e X.env := by rfl) : PX X (.Attribute e "states" pos) Γ o (is X.K d.states) := x_fld (C := He.ga X.K "Moment") (fs := fMoment X.K d) h T.cls_Moment T.noat_Moment_states (by rfl) hb
theorem f_Journey_moments (T : Tx X.w X.K X.mg) {d : Journey} (h : PX X e Γ o (is X.K d)) (hb : attributeBase e "moments" X.env (eval e X.env) = eval e X.env := by rfl) : PX X (.Attribute e "moments" pos) Γ o (is X.K d.moments) := x_fld (C := He.ga X.K "Journey") (fs := fJourney X.K d) h T.cls_Journey T.noat_Journey_moments (by rfl) hb
theorem f_Journey_ending (T : Tx X.w X.K X.mg) {d : Journey} (h : PX X e Γ o (is X.K d)) (hb : attributeBase e "ending" X.env (eval e X.env) = eval e X.env := by rfl) : PX X (.Attribute e "ending" pos) Γ o (is X.K d.ending) := x_fld (C := He.ga X.K "Journey") (fs := fJourney X.K d) h T.cls_Journey T.noat_Journey_ending (by rfl) hb
theorem f_Journey_broken (T : Tx X.w X.K X.mg) {d : Journey} (h : PX X e Γ o (is X.K d)) (hb : attributeBase e "broken" X.env (eval e X.env) = eval e X.env := by rfl) : PX X (.Attribute e "broken" pos) Γ o (is X.K d.broken) := x_fld (C := He.ga X.K "Journey") (fs := fJourney X.K d) h T.cls_Journey T.noat_Journey_broken (by rfl) hb
theorem f_Certificate_body (T : Tx X.w X.K X.mg) {d : Cert} (h : PX X e Γ o (is X.K d)) (hb : attributeBase e "body" X.env (eval e X.env) = eval e X.env := by rfl) : PX X (.Attribute e "body" pos) Γ o (is X.K d.body) := x_fld (C := He.ga X.K "Certificate") (fs := fCert X.K d) h T.cls_Certificate T.noat_Certificate_body (by rfl) hb
theorem f_Certificate_fineness (T : Tx X.w X.K X.mg) {d : Cert} (h : PX X e Γ o (is X.K d)) (hb : attributeBase e "fineness" X.env (eval e X.env) = eval e X.env := by rfl) : PX X (.Attribute e "fineness" pos) Γ o (is X.K d.fine) := x_fld (C := He.ga X.K "Certificate") (fs := fCert X.K d) h T.cls_Certificate T.noat_Certificate_fineness (by rfl) hb
theorem f_Certificate_craft (T : Tx X.w X.K X.mg) {d : Cert} (h : PX X e Γ o (is X.K d)) (hb : attributeBase e "craft" X.env (eval e X.env) = eval e X.env := by rfl) : PX X (.Attribute e "craft" pos) Γ o (is X.K d.craft) := x_fld (C := He.ga X.K "Certificate") (fs := fCert X.K d) h T.cls_Certificate T.noat_Certificate_craft (by rfl) hb
theorem f_Certificate_claims (T : Tx X.w X.K X.mg) {d : Cert} (h : PX X e Γ o (is X.K d)) (hb : attributeBase e "claims" X.env (eval e X.env) = eval e X.env := by rfl) : PX X (.Attribute e "claims" pos) Γ o (is X.K d.claims) := x_fld (C := He.ga X.K "Certificate") (fs := fCert X.K d) h T.cls_Certificate T.noat_Certificate_claims (by rfl) hb
theorem f_Piece_begin (T : Tx X.w X.K X.mg) {d : Piece} (h : PX X e Γ o (is X.K d)) (hb : attributeBase e "begin" X.env (eval e X.env) = eval e X.env := by rfl) : PX X (.Attribute e "begin" pos) Γ o (is X.K d.b) := x_fld (C := He.ga X.K "Piece") (fs := fPiece X.K d) h T.cls_Piece T.noat_Piece_begin (by rfl) hb
theorem f_Piece_end (T : Tx X.w X.K X.mg) {d : Piece} (h : PX X e Γ o (is X.K d)) (hb : attributeBase e "end" X.env (eval e X.env) = eval e X.env := by rfl) : PX X (.Attribute e "end" pos) Γ o (is X.K d.e) := x_fld (C := He.ga X.K "Piece") (fs := fPiece X.K d) h T.cls_Piece T.noat_Piece_end (by rfl) hb
theorem f_Piece_parts (T : Tx X.w X.K X.mg) {d : Piece} (h : PX X e Γ o (is X.K d)) (hb : attributeBase e "parts" X.env (eval e X.env) = eval e X.env := by rfl) : PX X (.Attribute e "parts" pos) Γ o (is X.K d.parts) := x_fld (C := He.ga X.K "Piece") (fs := fPiece X.K d) h T.cls_Piece T.noat_Piece_parts (by rfl) hb
theorem f_Course_pieces (T : Tx X.w X.K X.mg) {d : Course} (h : PX X e Γ o (is X.K d)) (hb : attributeBase e "pieces" X.env (eval e X.env) = eval e X.env := by rfl) : PX X (.Attribute e "pieces" pos) Γ o (is X.K d.pieces) := x_fld (C := He.ga X.K "Course") (fs := fCourse X.K d) h T.cls_Course T.noat_Course_pieces (by rfl) hb
theorem f_Course_ending (T : Tx X.w X.K X.mg) {d : Course} (h : PX X e Γ o (is X.K d)) (hb : attributeBase e "ending" X.env (eval e X.env) = eval e X.env := by rfl) : PX X (.Attribute e "ending" pos) Γ o (is X.K d.ending) := x_fld (C := He.ga X.K "Course") (fs := fCourse X.K d) h T.cls_Course T.noat_Course_ending (by rfl) hb
end
end Or
set_option maxHeartbeats 400000
/-! Defs as they stand, their calls; places of tuples. -/
namespace Or
open PySem PySem.Spec PyProof.Rows L2 L3
structure Fok (P : Program) (w : World) (K : Fg) (mg : Str → Option Value) (base : Heap) (k : Nat) (x : Str) (ps : List Str) (sp : Sp) : Prop where
  ex : ∃ fd, FnOk P w K mg base CX0 k (He.ga K x) fd ps sp ∧ Binds K fd ps []
  mg : mg x = some (.ref (He.ga K x))
  kp : PySem.W.keepIn K (.ref (He.ga K x)) = true
abbrev BindsOk (x qual : Str) (st : Stmt) (ps : List Str) : Prop := ∀ (kV doc pm : Value) (an : Option Addr) (cdv ct : Value) (us : List Value), us.length = ps.length → bindArgs (PySem.W.fnOf x qual (defArgs st) (defBody st) (defScope st) .none kV doc pm an cdv ct) ⟨us, []⟩ = pure (ps.zip us)
section
variable {P : Program} {w : World} {K : Fg} {mg : Str → Option Value} {base : Heap} {x qual : Str} {st : Stmt} {N ps : List Str} {k : Nat}
theorem fokR {α : Type} {pre : α → Prop} {Ar : α → List MP} {R : α → MP} (F : ∃ fd, FunD K x x (defArgs st) (defBody st) (defScope st) [] [] (He.ga K x) fd) (g : mg x = some (.ref (He.ga K x))) (b : BindsOk x x st ps) (S : FnScope N ps (defScope st)) (hl : ∀ x, (Ar x).length = ps.length)
    (hb : ∀ (cdv : Value) (A : Around) (outer : List Env) (s : Shared) (H : Hp) (E : XK), Room k (A.deeper (envOfC x (defScope st) s.heap.objs.size (He.ga K x) cdv)) → ∀ a, pre a →
      SXs (cX P w K mg base N x (defScope st) (He.ga K x) cdv A outer s H E) (defBody st) (as (G0 (Ar a) N.length) none) noA noA noA (retV (R a))) : Fok P w K mg base (k + 1) x ps (spF pre Ar R) :=
  let ⟨fd, F⟩ := F
  ⟨⟨fd, fn_okR F S hl hb, F.bindsN b⟩, g, F.kp⟩
theorem fokN {α : Type} {pre : α → Prop} {Ar : α → List MP} (F : ∃ fd, FunD K x x (defArgs st) (defBody st) (defScope st) [] [] (He.ga K x) fd) (g : mg x = some (.ref (He.ga K x))) (b : BindsOk x x st ps) (S : FnScope N ps (defScope st)) (hl : ∀ x, (Ar x).length = ps.length)
    (hb : ∀ (cdv : Value) (A : Around) (outer : List Env) (s : Shared) (H : Hp) (E : XK), Room k (A.deeper (envOfC x (defScope st) s.heap.objs.size (He.ga K x) cdv)) → ∀ a, pre a →
      SXs (cX P w K mg base N x (defScope st) (He.ga K x) cdv A outer s H E) (defBody st) (as (G0 (Ar a) N.length) none) noneA noA noA (retV (eqv .non))) : Fok P w K mg base (k + 1) x ps (spF pre Ar fun _ => eqv .non) :=
  let ⟨fd, F⟩ := F
  ⟨⟨fd, fn_okN F S hl hb, F.bindsN b⟩, g, F.kp⟩
/-- a class with its __init__ -/
structure Cok (P : Program) (w : World) (K : Fg) (mg : Str → Option Value) (base : Heap) (k : Nat) (x : Str) (ps : List Str) (dvs : List V) (sp : Sp) : Prop where
  ex : ∃ fd ds, FnOk P w K mg base CX0 k (He.ma K (He.ga K x) "__init__") fd ps sp ∧ Vals dvs ds ∧ Binds K fd ps ds
  mg : mg x = some (.ref (He.ga K x))
  mkr : Mk K (He.ga K x) (He.ma K (He.ga K x) "__init__")
theorem putM_new {f : Str} {P : MP} : ∀ {fs : List (Str × MP)}, f ∉ fs.map Prod.fst → putM f P fs = fs ++ [(f, P)]
  | [], _ => rfl
  | (g, x) :: r, h => by
    have h1 : ¬ g = f := fun e => h (by simp [e])
    have h2 : f ∉ r.map Prod.fst := fun e => h (by simpa using Or.inr (by simpa using e))
    unfold putM
    rw [if_neg h1, putM_new h2]
    rfl
/-- an __init__ that ends without a return -/
theorem cokR {α : Type} {pre : α → Prop} {Ar : α → List MP} {F1 : α → List (Str × MP)} {C : Str} (F : ∃ fd, FunD K "__init__" qual (defArgs st) (defBody st) (defScope st) [] [] (He.ma K (He.ga K C) "__init__") fd) (g : mg C = some (.ref (He.ga K C)))
    (M : Mk K (He.ga K C) (He.ma K (He.ga K C) "__init__")) (b : BindsOk "__init__" qual st ps) (S : FnScope N ps (defScope st)) (hl : ∀ x, (Ar x).length + 1 = ps.length) (hN : 0 < N.length)
    (hb : ∀ (cdv : Value) (A : Around) (outer : List Env) (s : Shared) (H : Hp) (E : XK), Room k (A.deeper (envOfC qual (defScope st) s.heap.objs.size (He.ma K (He.ga K C) "__init__") cdv)) → ∀ y a, pre a →
      SXs (cX P w K mg base N qual (defScope st) (He.ma K (He.ga K C) "__init__") cdv A outer s H E) (defBody st) (as ((G0 (anyV :: Ar a) N.length).set 0 none) (some (ownI y (He.ga K C) 0 []))) (exA (fun _ : Gm => True) fun Γ => as Γ (some (ownI y (He.ga K C) 0 (F1 a)))) noA noA (retO (ownI y (He.ga K C) 0 (F1 a)) (eqv .non))) :
    Cok P w K mg base (k + 1) C ps [] (spM (He.ga K C) pre Ar (fun _ => []) F1 fun _ => eqv .non) :=
  let ⟨fd, F⟩ := F
  ⟨⟨fd, [], me_ok F S (fun y a => exA (fun _ : Gm => True) fun Γ => as Γ (some (ownI y (He.ga K C) 0 (F1 a)))) hl hN (fun y a _ B0 H0 σ H ⟨Γ, _, h⟩ => as_retO (fun _ => rfl) _ _ _ _ h) hb, .nil, F.bindsN b⟩, g, M⟩
end
section
variable {X : Cx} {Γ : Gm} {o : Option Own} {e : Expr} {es : List Expr} {As : List MP} {pos p : Pos} {x : Str} {ps : List Str} {k : Nat} {α : Type} {pre : α → Prop} {A : α → List MP} {R : α → MP}
theorem x_callF (G : Fok X.prog X.w X.K X.mg X.base k x ps (spF pre A R)) (hr : Room k X.A) (a : α) (ha : pre a) (h : PAX X (e :: es) Γ o As) (hA : As = A a) (hg : Gl X x := by rfl) (hdb : (x == ("__debug__" : Str)) = false := by decide)
    (he : starEach (e :: es) X.env = (false, eval e X.env) :: starEach es X.env := by rfl) (hpl : (backTo pos (starEach es X.env)).any (·.1) = false := by rfl) : PX X (.Call (.Name x p) (e :: es) [] pos) Γ o (R a) :=
  let ⟨fd, F, b⟩ := G.ex
  x_call (Ds := []) F hr G.mg G.kp b .nil trivial a ha h (by rw [List.append_nil]; exact hA) hg hdb he hpl
theorem x_makeC {Ds : List MP} {dvs : List V} {F1 : α → List (Str × MP)} (G : Cok X.prog X.w X.K X.mg X.base k x ps dvs (spM (He.ga X.K x) pre A (fun _ => []) F1 fun _ => eqv .non)) (hr : Room (k + 1) X.A) (hD : AllR Ds (fun _ => none) dvs) (a : α) (ha : pre a) (h : PAX X (e :: es) Γ o As) (hA : As ++ Ds = A a)
    (hg : Gl X x := by rfl) (hdb : (x == ("__debug__" : Str)) = false := by decide) (he : starEach (e :: es) X.env = (false, eval e X.env) :: starEach es X.env := by rfl) (hpl : (backTo pos (starEach es X.env)).any (·.1) = false := by rfl) :
    PX X (.Call (.Name x p) (e :: es) [] pos) Γ o (insOf (He.ga X.K x) (F1 a)) :=
  let ⟨fd, ds, F, hd, b⟩ := G.ex
  x_make G.mkr F hr G.mg b hd hD a ha h hA hg hdb he hpl
end
/-! ### places of tuples -/
section
variable {X : Cx} {Γ : Gm} {o : Option Own} {e b : Expr} {α β γ δ ε : Type} [Rep α] [Rep β] [Rep γ] [Rep δ] [Rep ε] {pos p : Pos} {n : Nat}
theorem x2a {d : T2 α β} (h : PX X e Γ o (is X.K d)) : PX X (.Subscript e (.Constant (.int 0) n p) pos) Γ o (is X.K d.a) := x_ixP (t := anyV) (n := 0) h x_int rfl rfl
theorem x2b {d : T2 α β} (h : PX X e Γ o (is X.K d)) : PX X (.Subscript e (.Constant (.int 1) n p) pos) Γ o (is X.K d.b) := x_ixP (t := anyV) (n := 1) h x_int rfl rfl
theorem x3a {d : T3 α β γ} (h : PX X e Γ o (is X.K d)) : PX X (.Subscript e (.Constant (.int 0) n p) pos) Γ o (is X.K d.a) := x_ixP (t := anyV) (n := 0) h x_int rfl rfl
theorem x3b {d : T3 α β γ} (h : PX X e Γ o (is X.K d)) : PX X (.Subscript e (.Constant (.int 1) n p) pos) Γ o (is X.K d.b) := x_ixP (t := anyV) (n := 1) h x_int rfl rfl
theorem x3c {d : T3 α β γ} (h : PX X e Γ o (is X.K d)) : PX X (.Subscript e (.Constant (.int 2) n p) pos) Γ o (is X.K d.c) := x_ixP (t := anyV) (n := 2) h x_int rfl rfl
theorem x4c {d : T4 α β γ δ} (h : PX X e Γ o (is X.K d)) : PX X (.Subscript e (.Constant (.int 2) n p) pos) Γ o (is X.K d.c) := x_ixP (t := anyV) (n := 2) h x_int rfl rfl
theorem x4a {d : T4 α β γ δ} (h : PX X e Γ o (is X.K d)) : PX X (.Subscript e (.Constant (.int 0) n p) pos) Γ o (is X.K d.a) := x_ixP (t := anyV) (n := 0) h x_int rfl rfl
theorem x4d {d : T4 α β γ δ} (h : PX X e Γ o (is X.K d)) : PX X (.Subscript e (.Constant (.int 3) n p) pos) Γ o (is X.K d.d) := x_ixP (t := anyV) (n := 3) h x_int rfl rfl
/-- a triple of one kind by a number -/
theorem x3v {d : T3 α α α} {z : Int} {i : Nat} {g : α} (h : PX X e Γ o (is X.K d)) (hb : PX X b Γ o (is X.K z)) (hz : z = (i : Int)) (hg : [d.a, d.b, d.c][i]? = some g) (hs : PlainIx b := by intro _ _; rfl) : PX X (.Subscript e b pos) Γ o (is X.K g) :=
  x_ixP (t := anyV) (n := i) h hb hz (by
    have e : ([d.a, d.b, d.c].map (is X.K))[i]? = some (is X.K g) := by rw [List.getElem?_map, hg]; rfl
    exact e) hs
theorem xLv {d : List α} {z : Int} {i : Nat} {a : α} (h : PX X e Γ o (is X.K d)) (hb : PX X b Γ o (is X.K z)) (hz : ixN d.length z = some i) (ha : d[i]? = some a) (hs : PlainIx b := by intro _ _; rfl) : PX X (.Subscript e b pos) Γ o (is X.K a) :=
  x_ixL (n := i) h hb (by rw [List.length_map]; exact hz) (by rw [List.getElem?_map, ha]; rfl) hs
theorem xRv {d : Rdl α} {z : Int} {i : Nat} {a : α} (h : PX X e Γ o (is X.K d)) (hb : PX X b Γ o (is X.K z)) (hz : ixN d.l.length z = some i) (ha : d.l[i]? = some a) (hs : PlainIx b := by intro _ _; rfl) : PX X (.Subscript e b pos) Γ o (is X.K a) :=
  x_ixR (n := i) h hb (by rw [List.length_map]; exact hz) (by rw [List.getElem?_map, ha]; rfl) hs
theorem xTv {d : Tup α} {z : Int} {i : Nat} {a : α} (h : PX X e Γ o (is X.K d)) (hb : PX X b Γ o (is X.K z)) (hz : z = (i : Int)) (ha : d.l[i]? = some a) (hs : PlainIx b := by intro _ _; rfl) : PX X (.Subscript e b pos) Γ o (is X.K a) :=
  x_ixP (t := anyV) (n := i) h hb hz (by rw [List.getElem?_map, ha]; rfl) hs
theorem ixN_nat {n i : Nat} (h : i < n) : ixN n (i : Int) = some i := by
  unfold ixN
  rw [if_pos (Int.natCast_nonneg i), if_pos (by omega)]
  simp
end
end Or
namespace Or
open PySem PySem.Spec PyProof.Rows L2 L3
section
variable {X : Cx} {Γ : Gm} {o : Option Own} {c : Expr} {a rest : List Stmt} {pos : Pos} {A N Bk Ct : Asn} {R : Ret} {d : Bool}
theorem sxs_noA {sts : List Stmt} : SXs X sts noA N Bk Ct R := ⟨_, pss_w, fun _ _ _ _ _ z _ => z.elim⟩
/-- if c: .. (it leaves); rest -/
theorem sx_ifx (hc : PTX X c Γ o d) (ha : d = true → SXs X a (as Γ o) noA Bk Ct R) (hr : d = false → SXs X rest (as Γ o) N Bk Ct R) : SXs X (.If c a [] pos :: rest) (as Γ o) N Bk Ct R := by
  cases d with
  | true => exact sx_cons (sx_if hc ha fun h => nomatch h) sxs_noA
  | false => exact sx_cons (M := as Γ o) (sx_if hc (fun h => nomatch h) fun _ => sx_nil) (hr rfl)
theorem sx_ifT (hc : PTX X c Γ o d) (hd : d = true) {b : List Stmt} (ha : SXs X a (as Γ o) N Bk Ct R) : SX X (.If c a b pos) (as Γ o) N Bk Ct R := sx_if hc (fun _ => ha) fun h => by rw [hd] at h; cases h
theorem sx_ifF (hc : PTX X c Γ o d) (hd : d = false) {b : List Stmt} (hb : SXs X b (as Γ o) N Bk Ct R) : SX X (.If c a b pos) (as Γ o) N Bk Ct R := sx_if hc (fun h => by rw [hd] at h; cases h) fun _ => hb
end
theorem rep_non_int (i : Int) (v : V) (h : v = .int i) : decide (v = .non) = false := by subst h; rfl
/-- things that are never None -/
class NN (α : Type) [Rep α] : Prop where
  nn : ∀ (K : Fg) (B : Hp) (v : V) (a : α), (is K a).p B v → v ≠ .non
instance : NN Int := ⟨fun K B v a h => by have h : v = .int a := h; subst h; intro z; cases z⟩
instance : NN Str := ⟨fun K B v a h => by have h : v = .str a := h; subst h; intro z; cases z⟩
theorem nn_tup {K : Fg} {Ps : List MP} {B : Hp} {v : V} (h : (tupOf K Ps).p B v) : v ≠ .non := by obtain ⟨q, vs, rfl, _⟩ := h; intro z; cases z
theorem nn_lst {Ps : List MP} {B : Hp} {v : V} (h : (lstOf Ps).p B v) : v ≠ .non := by obtain ⟨q, vs, rfl, _⟩ := h; intro z; cases z
theorem nn_ins {C : Addr} {fs : List (Str × MP)} {B : Hp} {v : V} (h : (insOf C fs).p B v) : v ≠ .non := by obtain ⟨q, dx, vs, rfl, _⟩ := h; intro z; cases z
instance {α β : Type} [Rep α] [Rep β] : NN (T2 α β) := ⟨fun K B v a h => nn_tup h⟩
instance {α β γ : Type} [Rep α] [Rep β] [Rep γ] : NN (T3 α β γ) := ⟨fun K B v a h => nn_tup h⟩
instance {α : Type} [Rep α] : NN (List α) := ⟨fun K B v a h => nn_lst h⟩
instance : NN State := ⟨fun K B v a h => nn_ins h⟩
instance : NN Craft := ⟨fun K B v a h => nn_ins h⟩
instance : NN Moment := ⟨fun K B v a h => nn_ins h⟩
theorem opt_non {α : Type} [Rep α] [NN α] {K : Fg} (x : Option α) (B : Hp) (v : V) (h : (is K x).p B v) : decide (v = .non) = x.isNone := by
  cases x with
  | none =>
    have h : v = .non := h
    subst h
    rfl
  | some a =>
    have h : (is K a).p B v := h
    exact decide_eq_false (NN.nn K B v a h)
section
variable {X : Cx} {Γ : Gm} {o : Option Own} {a : Expr} {α : Type} [Rep α] [NN α] {x : Option α} {n : Nat} {pos pos' : Pos}
theorem t_isNo (h : PX X a Γ o (is X.K x)) : PTX X (.Compare a [.Is] [.Constant .none n pos'] pos) Γ o x.isNone := t_isN h (fun B v => opt_non x B v)
theorem t_notNo (h : PX X a Γ o (is X.K x)) : PTX X (.Compare a [.IsNot] [.Constant .none n pos'] pos) Γ o (!x.isNone) := t_notN h (fun B v => opt_non x B v)
end
/-! ### sizes -/
/-- below 2 ^ n in size -/
def Sm (n : Nat) (x : Int) : Prop := x.natAbs < 2 ^ n
theorem Sm.mono {n m : Nat} {x : Int} (h : Sm n x) (hm : n ≤ m) : Sm m x := Nat.lt_of_lt_of_le h (Nat.pow_le_pow_right (by decide) hm)
theorem Sm.mul {n m : Nat} {x y : Int} (h : Sm n x) (g : Sm m y) : Sm (n + m) (x * y) := by
  unfold Sm at *
  rw [Int.natAbs_mul, Nat.pow_add]
  exact Nat.mul_lt_mul'' h g
theorem Sm.add {n : Nat} {x y : Int} (h : Sm n x) (g : Sm n y) : Sm (n + 1) (x + y) := by
  unfold Sm at *
  rw [Nat.pow_succ]
  omega
theorem Sm.sub {n : Nat} {x y : Int} (h : Sm n x) (g : Sm n y) : Sm (n + 1) (x - y) := by
  unfold Sm at *
  rw [Nat.pow_succ]
  omega
theorem Sm.neg {n : Nat} {x : Int} (h : Sm n x) : Sm n (-x) := by
  unfold Sm at *
  omega
theorem Sm.mulW {n m : Nat} {x y : Int} (h : Sm n x) (g : Sm m y) (hn : 0 < n := by decide) (hm : 0 < m := by decide) (hs : n + m ≤ 1000000 := by decide) : CMulW x y := wide_mul h g hn hm hs
theorem Sm.divW {n : Nat} {x y : Int} (h : Sm n y) (h0 : 0 < y) (hn : 0 < n := by decide) (hm : n ≤ 9000 := by decide) : CDivW x y := wide_div h0 h hn hm
theorem Sm.of_le {n : Nat} {x : Int} {k : Nat} (h : x.natAbs ≤ k) (hk : k < 2 ^ n) : Sm n x := Nat.lt_of_le_of_lt h hk
end Or
namespace Or
open PySem PySem.Spec PyProof.Rows L2 L3
section
variable {X : Cx} {Γ : Gm} {o : Option Own} {e : Expr} {pos : Pos} {N Bk Ct : Asn} {α : Type} [Rep α]
theorem sx_retS {x : α} {y : Option α} (he : PX X e Γ o (is X.K x)) (h : some x = y) : SX X (.Return (some e) pos) (as Γ o) N Bk Ct (retV (is X.K y)) := by
  subst h
  exact sx_ret he (MP.le_refl _)
theorem sx_retNo {y : Option α} (he : PX X e Γ o (is X.K Non.non)) (h : none = y) : SX X (.Return (some e) pos) (as Γ o) N Bk Ct (retV (is X.K y)) := by
  subst h
  exact sx_ret he (MP.le_refl _)
theorem x_opt {x : α} (he : PX X e Γ o (is X.K x)) : PX X e Γ o (is X.K (some x)) := he
theorem x_optN (he : PX X e Γ o (is X.K Non.non)) : PX X e Γ o (is X.K (none : Option α)) := he
end
end Or
namespace Or
open PySem PySem.Spec PyProof.Rows L2 L3
section
variable {X : Cx} {Γ : Gm} {o : Option Own} {e : Expr} {α : Type} [Rep α]
theorem x_some {x : α} (he : PX X e Γ o (is X.K (some x))) : PX X e Γ o (is X.K x) := he
end
end Or
namespace Or
open PySem PySem.Spec PyProof.Rows L2 L3
section
variable {X : Cx} {Γ : Gm} {e : Expr} {pos pos' np : Pos} {y C : Addr} {i : Nat} {fs : List (Str × MP)} {P : MP} {f x : Str} {Bk Ct : Asn} {R : Ret}
/-- a new field -/
theorem sx_fldN (c : Cls X.K C) (n : NoAttr X.K C f) (hf : f ∉ fs.map Prod.fst) (he : PX X e Γ (some (ownI y C i fs)) P) (hl : fs.length < 1000 := by exact Nat.lt_of_succ_le (Nat.le_of_ble_eq_true rfl)) (hN : X.N[i]? = some x := by rfl) (hv : Vis X.env.scope x := by first | exact Or.inl rfl | exact Or.inr (Or.inl rfl))
    (hd : (x == ("__debug__" : Str)) = false := by decide) (hcd : (x == ("__classdict__" : Str)) = false := by decide) (hs : swapsWith e (some (.Attribute (.Name x np) f pos')) pos.line X.env = pure false := by rfl) :
    SX X (.Assign [.Attribute (.Name x np) f pos'] e pos) (as Γ (some (ownI y C i fs))) (as Γ (some (ownI y C i (fs ++ [(f, P)])))) Bk Ct R := by
  rw [← putM_new hf]
  exact sx_fld c n he hl hN hv hd hcd hs
end
end Or
set_option maxHeartbeats 400000
/-! Sizes and signs of intervals. -/
namespace Or
open PySem L2 L3
def BI (n : Nat) (a : Iv) : Prop := Sm n a.a ∧ Sm n a.b
def BB (n : Nat) (x : Box) : Prop := BI n x.a ∧ BI n x.b ∧ BI n x.c
def IV (a : Iv) : Prop := a.a ≤ a.b
def BV (x : Box) : Prop := IV x.a ∧ IV x.b ∧ IV x.c
theorem BI.mono {n m : Nat} {a : Iv} (h : BI n a) (hm : n ≤ m) : BI m a := ⟨h.1.mono hm, h.2.mono hm⟩
theorem BB.mono {n m : Nat} {a : Box} (h : BB n a) (hm : n ≤ m) : BB m a := ⟨h.1.mono hm, h.2.1.mono hm, h.2.2.mono hm⟩
theorem Sm.min {n : Nat} {x y : Int} (h : Sm n x) (g : Sm n y) : Sm n (min x y) := by
  rcases Int.le_total x y with e | e
  · rw [Int.min_eq_left e]; exact h
  · rw [Int.min_eq_right e]; exact g
theorem Sm.max {n : Nat} {x y : Int} (h : Sm n x) (g : Sm n y) : Sm n (max x y) := by
  rcases Int.le_total x y with e | e
  · rw [Int.max_eq_right e]; exact g
  · rw [Int.max_eq_left e]; exact h
theorem Sm.zero {n : Nat} : Sm n 0 := by
  unfold Sm
  show 0 < 2 ^ n
  exact Nat.pow_pos (by decide)
theorem BI.add {n : Nat} {a b : Iv} (h : BI n a) (g : BI n b) : BI (n + 1) (Iv.add a b) := ⟨h.1.add g.1, h.2.add g.2⟩
theorem BI.sub {n : Nat} {a b : Iv} (h : BI n a) (g : BI n b) : BI (n + 1) (Iv.sub a b) := ⟨h.1.sub g.2, h.2.sub g.1⟩
theorem BI.mul {n m : Nat} {a b : Iv} (h : BI n a) (g : BI m b) : BI (n + m) (Iv.mul a b) := by
  have h1 := h.1.mul g.1
  have h2 := h.1.mul g.2
  have h3 := h.2.mul g.1
  have h4 := h.2.mul g.2
  exact ⟨((h1.min h2).min h3).min h4, ((h1.max h2).max h3).max h4⟩
theorem BI.square {n : Nat} {a : Iv} (h : BI n a) : BI (n + n) (Iv.square a) := by
  have h1 := h.1.mul h.1
  have h2 := h.2.mul h.2
  unfold Iv.square
  split
  · exact ⟨h1, h2⟩
  · split
    · exact ⟨h2, h1⟩
    · exact ⟨Sm.zero, h1.max h2⟩
theorem BI.scaled {n m : Nat} {a : Iv} {k : Int} (h : BI n a) (g : Sm m k) : BI (n + m) (Iv.scaled a k) := by
  unfold Iv.scaled
  split
  · exact ⟨h.2.mul g, h.1.mul g⟩
  · exact ⟨h.1.mul g, h.2.mul g⟩
theorem BB.sqlen {n : Nat} {x : Box} (h : BB n x) : BI (n + n + 2) (Box.sqlen x) := (h.1.square.add h.2.1.square).add (h.2.2.square.mono (Nat.le_succ _))
theorem sq_nn (x : Int) : 0 ≤ x * x := by
  rcases Int.le_total 0 x with h | h
  · exact Int.mul_nonneg h h
  · have := Int.mul_nonneg (show 0 ≤ -x by omega) (show 0 ≤ -x by omega)
    rw [Int.neg_mul_neg] at this
    exact this
theorem sq_le {x y : Int} (h0 : 0 ≤ x) (h : x ≤ y) : x * x ≤ y * y := Int.mul_le_mul h h h0 (by omega)
theorem sq_le_neg {x y : Int} (h0 : y ≤ 0) (h : x ≤ y) : y * y ≤ x * x := by
  have := sq_le (x := -y) (y := -x) (by omega) (by omega)
  rw [Int.neg_mul_neg, Int.neg_mul_neg] at this
  exact this
theorem square_lo (a : Iv) : 0 ≤ (Iv.square a).a := by
  unfold Iv.square
  split
  · exact sq_nn _
  · split
    · exact sq_nn _
    · exact Int.le_refl _
theorem square_iv {a : Iv} (h : IV a) : IV (Iv.square a) := by
  unfold IV at h
  unfold IV Iv.square
  split
  · exact sq_le (by assumption) h
  · split
    · exact sq_le_neg (by assumption) h
    · have := sq_nn a.a
      show 0 ≤ max _ _
      omega
theorem sqlen_lo (x : Box) : 0 ≤ (Box.sqlen x).a := by
  have h1 := square_lo x.a
  have h2 := square_lo x.b
  have h3 := square_lo x.c
  show 0 ≤ (Iv.square x.a).a + (Iv.square x.b).a + (Iv.square x.c).a
  omega
theorem sqlen_iv {x : Box} (h : BV x) : IV (Box.sqlen x) := by
  have h1 := square_iv h.1
  have h2 := square_iv h.2.1
  have h3 := square_iv h.2.2
  unfold IV at *
  show (Iv.square x.a).a + (Iv.square x.b).a + (Iv.square x.c).a ≤ (Iv.square x.a).b + (Iv.square x.b).b + (Iv.square x.c).b
  omega
theorem isq_mono {m n : Int} (h0 : 0 ≤ m) (h : m ≤ n) : isq m ≤ isq n := by
  obtain ⟨a1, a2, a3⟩ := isq_spec h0
  obtain ⟨b1, b2, b3⟩ := isq_spec (show 0 ≤ n by omega)
  rcases Int.lt_or_le (isq n) (isq m) with c | c
  · have := sq_le (x := isq n + 1) (y := isq m) (by omega) (by omega)
    omega
  · exact c
theorem isq_pos {n : Int} (h : 1 ≤ n) : 1 ≤ isq n := by
  obtain ⟨a1, a2, a3⟩ := isq_spec (show 0 ≤ n by omega)
  rcases Int.lt_or_le (isq n) 1 with c | c
  · have e : isq n = 0 := by omega
    rw [e] at a3
    omega
  · exact c
theorem isq_le {n : Int} (h : 0 ≤ n) : isq n ≤ n := by
  obtain ⟨a1, a2, a3⟩ := isq_spec h
  rcases Int.lt_or_le (isq n) 1 with c | c
  · omega
  · have := Int.mul_le_mul_of_nonneg_left c (show 0 ≤ isq n by omega)
    omega
theorem Sm.isq {n : Nat} {x : Int} (h0 : 0 ≤ x) (h : Sm n x) : Sm n (L3.isq x) := by
  have h1 := isq_le h0
  obtain ⟨h2, _⟩ := isq_spec h0
  unfold Sm at *
  omega
theorem BI.root {n : Nat} {a : Iv} (h : BI n a) (h0 : 0 ≤ a.a) (h1 : 0 ≤ a.b) : BI n (Iv.root a) := by
  refine ⟨?_, h.2.isq h1⟩
  show Sm n (L3.isq (max a.a 0))
  rw [Int.max_eq_left h0]
  exact h.1.isq h0
theorem pos_mul {x y : Int} (h : 1 ≤ x) (g : 1 ≤ y) : 1 ≤ x * y := by
  have := Int.mul_pos (show 0 < x by omega) (show 0 < y by omega)
  omega
theorem mul_pos' {a b : Iv} (h : 1 ≤ a.a ∧ 1 ≤ a.b) (g : 1 ≤ b.a ∧ 1 ≤ b.b) : 1 ≤ (Iv.mul a b).a ∧ 1 ≤ (Iv.mul a b).b := by
  have h1 := pos_mul h.1 g.1
  have h2 := pos_mul h.1 g.2
  have h3 := pos_mul h.2 g.1
  have h4 := pos_mul h.2 g.2
  unfold Iv.mul Iv.min4 Iv.max4
  constructor
  · show 1 ≤ min _ _
    omega
  · show 1 ≤ max _ _
    omega
theorem root_pos {a : Iv} (h : 1 ≤ a.a ∧ 1 ≤ a.b) : 1 ≤ (Iv.root a).a ∧ 1 ≤ (Iv.root a).b := by
  refine ⟨?_, isq_pos h.2⟩
  show 1 ≤ L3.isq (max a.a 0)
  rw [Int.max_eq_left (by omega)]
  exact isq_pos h.1
theorem sqlen_pos {x : Box} (h : BV x) (n : ¬ (Box.sqlen x).a = 0) : 1 ≤ (Box.sqlen x).a ∧ 1 ≤ (Box.sqlen x).b := by
  have h1 := sqlen_lo x
  have h2 := sqlen_iv h
  unfold IV at h2
  omega
theorem BI.p {n : Nat} {a : Iv} (h : BI n a) (hn : n ≤ 4000 := by decide) : Sm 4000 a.a ∧ Sm 4000 a.b := h.mono hn
theorem BI.p8 {n : Nat} {a : Iv} (h : BI n a) (hn : n ≤ 8000 := by decide) : Sm 8000 a.a ∧ Sm 8000 a.b := h.mono hn
theorem box_at (x : Box) {i : Nat} (h : i < 3) : [x.a, x.b, x.c][i]? = some (Box.at_ x i) := by
  match i, h with
  | 0, _ => rfl
  | 1, _ => rfl
  | 2, _ => rfl
theorem fac_at {i : Nat} (h : i < 3) : [(1 : Int), 1, 3][i]? = some (factor i) := by
  match i, h with
  | 0, _ => rfl
  | 1, _ => rfl
  | 2, _ => rfl
theorem BB.at_ {n : Nat} {x : Box} (h : BB n x) {i : Nat} (hi : i < 3) : BI n (Box.at_ x i) := by
  match i, hi with
  | 0, _ => exact h.1
  | 1, _ => exact h.2.1
  | 2, _ => exact h.2.2
theorem fac_sm {i : Nat} (h : i < 3) : Sm 10 (factor i) := by
  match i, h with
  | 0, _ => unfold factor Sm; decide
  | 1, _ => unfold factor Sm; decide
  | 2, _ => unfold factor Sm; decide
theorem five_sm : Sm 10 5 := by unfold Sm; decide
end Or
set_option maxHeartbeats 400000
/-! Loops and comprehensions over data. -/
namespace L3
open PySem PySem.Spec PyProof.Rows L2 Or
def setAll (Γ : Gm) : List (Nat × Option MP) → Gm
  | [] => Γ
  | (i, a) :: r => setAll (Γ.set i a) r
def loopA {ι : Type} (Γ : Gm) (U : Nat → ι → List (Nat × Option MP)) (J : Nat → ι → Option Own) (φ : Nat → ι → Prop) (k : Nat) : Asn := exA (φ k) fun x => as (setAll Γ (U k x)) (J k x)
def rngL (lo : Int) (n : Nat) : List Int := (List.range n).map fun (i : Nat) => lo + (i : Int)
theorem rngL_len {lo : Int} {n : Nat} : (rngL lo n).length = n := by simp [rngL]
theorem rngL_get {lo : Int} {n k : Nat} {a : Int} (h : (rngL lo n)[k]? = some a) : k < n ∧ a = lo + (k : Int) := by
  unfold rngL at h
  rw [List.getElem?_map] at h
  by_cases hk : k < n
  · rw [List.getElem?_range hk] at h
    exact ⟨hk, (Option.some.inj h).symm⟩
  · rw [List.getElem?_eq_none (by simpa using hk)] at h
    cases h
theorem rngP_eq {K : Fg} {lo : Int} {n : Nat} : rngP K lo n = (rngL lo n).map (is K) := by
  unfold rngP rngL
  rw [List.map_map]
  rfl
section
variable {X : Cx} {Γ Γe : Gm} {o oe : Option Own} {tg iter : Expr} {ts : List Nat} {pos : Pos} {body rest : List Stmt} {N Bk Ct Bk2 : Asn} {R : Ret} {α β ι : Type} [Rep α] [Rep β]
theorem sx_forUB (Mb : Asn) (xs : List α) (U : Nat → ι → List (Nat × Option MP)) (J : Nat → ι → Option Own) (φ : Nat → ι → Prop) (x0 : ι) (hi : PIX X tg iter Γ o (xs.map (is X.K))) (h0 : φ 0 x0) (hs0 : GLe Γ (setAll Γ (U 0 x0))) (hj : o = J 0 x0)
    (hs : ∀ k x a, xs[k]? = some a → φ k x → ∃ Γ' ts, PGX X tg (is X.K a) (setAll Γ (U k x)) (J k x) Γ' ts ∧ (∀ w, J k x = some w → w.i ∉ ts) ∧ SXs X body (as Γ' (J k x)) (loopA Γ U J φ (k + 1)) Mb (loopA Γ U J φ (k + 1)) R)
    (hr : ∀ x, φ xs.length x → SXs X rest (as (setAll Γ (U xs.length x)) (J xs.length x)) N Bk Ct R) (hb : SXs X rest Mb N Bk Ct R)
    (hc : X.calm = true := by rfl) (hp : PassesOwn (model X.prog X.w) X.A X.env X.xe := by exact PassesOwn.never) (hf : ∀ x, foldedSetIterable iter X.env x = pure x := by intro _; rfl) : SXs X (.For tg iter body [] pos :: rest) (as Γ o) N Bk Ct R := by
  have e : ((xs.map (is X.K)).length) = xs.length := List.length_map ..
  refine sx_cons (M := exA (fun _ : Bool => True) fun b => if b = true then Mb else loopA Γ U J φ xs.length) (sx_forG (fun k x => setAll Γ (U k x)) J φ x0 hi h0 (by rw [hj]; exact as_le hs0) (fun k x P hP hx => ?_) (fun x hx => ?_) hc hp hf) (sx_ex fun b _ => ?_)
  · rw [List.getElem?_map] at hP
    cases ea : xs[k]? with
    | none => rw [ea] at hP; cases hP
    | some a =>
      rw [ea] at hP
      have hP := (Option.some.inj hP).symm
      subst hP
      obtain ⟨Γ', ts, h1, h2, h3⟩ := hs k x a ea hx
      obtain ⟨t, p, f⟩ := h3
      exact ⟨Γ', ts, h1, h2, t, p, fun B0 H0 σ H D a d => f B0 H0 σ H D a ⟨d.nx, fun σ' H' z => d.bk σ' H' ⟨true, trivial, z⟩, d.ct, d.rt⟩⟩
  · rw [e] at hx ⊢
    exact exA_in false trivial fun B0 H0 σ H z => ⟨x, hx, z⟩
  · cases b with
    | true => exact hb
    | false => exact sx_ex hr
theorem sx_forU (xs : List α) (U : Nat → ι → List (Nat × Option MP)) (J : Nat → ι → Option Own) (φ : Nat → ι → Prop) (x0 : ι) (hi : PIX X tg iter Γ o (xs.map (is X.K))) (h0 : φ 0 x0) (hs0 : GLe Γ (setAll Γ (U 0 x0))) (hj : o = J 0 x0)
    (hs : ∀ k x a, xs[k]? = some a → φ k x → ∃ Γ' ts, PGX X tg (is X.K a) (setAll Γ (U k x)) (J k x) Γ' ts ∧ (∀ w, J k x = some w → w.i ∉ ts) ∧ SXs X body (as Γ' (J k x)) (loopA Γ U J φ (k + 1)) noA (loopA Γ U J φ (k + 1)) R)
    (hr : ∀ x, φ xs.length x → SXs X rest (as (setAll Γ (U xs.length x)) (J xs.length x)) N Bk Ct R)
    (hc : X.calm = true := by rfl) (hp : PassesOwn (model X.prog X.w) X.A X.env X.xe := by exact PassesOwn.never) (hf : ∀ x, foldedSetIterable iter X.env x = pure x := by intro _; rfl) : SXs X (.For tg iter body [] pos :: rest) (as Γ o) N Bk Ct R :=
  sx_forUB noA xs U J φ x0 hi h0 hs0 hj hs hr sxs_noA hc hp hf
theorem sx_endU {U : Nat → ι → List (Nat × Option MP)} {J : Nat → ι → Option Own} {φ : Nat → ι → Prop} {k : Nat} (x : ι) (hx : φ k x) (g : GLe Γe (setAll Γ (U k x))) (hj : oe = J k x) : SXs X [] (as Γe oe) (loopA Γ U J φ k) Bk Ct R := by
  subst hj
  exact sx_end (exA_in x hx (as_le g))
/-- a search: nothing is stored but the loop's own name -/
theorem sx_forS {x : Str} {px : Pos} (i : Nat) (nd : X.N.Nodup) (xs : List α) (φ : Nat → Prop) (hi : PIX X (.Name x px) iter Γ o (xs.map (is X.K))) (h0 : φ 0)
    (hs : ∀ k a, xs[k]? = some a → φ k → SXs X body (as (Γ.set i (some (is X.K a))) o) (exA (fun _ : Unit => φ (k + 1)) fun _ => as Γ o) noA (exA (fun _ : Unit => φ (k + 1)) fun _ => as Γ o) R)
    (hr : φ xs.length → SXs X rest (as Γ o) N Bk Ct R) (ho : ∀ w, o = some w → w.i ≠ i := by first | exact no_own | exact own_neL (by decide) | exact own_neI (by decide)) (hN : X.N[i]? = some x := by rfl) (hx : Loc X.env.scope x := by first | exact Or.inl rfl | exact Or.inr rfl)
    (hl : i < Γ.length := by exact Nat.lt_of_succ_le (Nat.le_of_ble_eq_true rfl)) (hfn : X.fn x = true ∨ X.env.scope.names.lookup x = some .local := by first | exact .inl rfl | exact .inr rfl)
    (hc : X.calm = true := by rfl) (hp : PassesOwn (model X.prog X.w) X.A X.env X.xe := by exact PassesOwn.never) (hf : ∀ x, foldedSetIterable iter X.env x = pure x := by intro _; rfl) : SXs X (.For (.Name x px) iter body [] pos :: rest) (as Γ o) N Bk Ct R :=
  sx_forU (ι := Unit) xs (fun _ _ => []) (fun _ _ => o) (fun k _ => φ k) () hi h0 (GLe.refl _) rfl (fun k _ a e hk => ⟨_, [i], g_name i nd ho hN hx hl hfn, fun w e2 => by simp only [List.mem_singleton]; exact ho w e2, hs k a e hk⟩) (fun _ h => hr h) hc hp hf
theorem sx_endS {φ : Prop} (h : φ) (g : GLe Γe Γ) : SXs X [] (as Γe o) (exA (fun _ : Unit => φ) fun _ => as Γ o) Bk Ct R := sx_end (exA_in () h (as_le g))
theorem sx_endS1 {φ : Prop} {i : Nat} {a : Option MP} (h : φ) (g : Γ[i]? = some none) : SXs X [] (as (Γ.set i a) o) (exA (fun _ : Unit => φ) fun _ => as Γ o) Bk Ct R := by
  refine sx_end (exA_in () h (as_le ?_))
  have key : ∀ (Γ : Gm) (i : Nat), Γ[i]? = some none → GLe (Γ.set i a) Γ := by
    intro Γ
    induction Γ with
    | nil => intro i h; simp at h
    | cons b Γ ih =>
      intro i h
      cases i with
      | zero =>
        have h : b = none := by simpa using h
        subst h
        exact .drop (GLe.refl _)
      | succ i => exact .keep (ih i (by simpa using h))
  exact key Γ i g
/-! ranges -/
theorem i_rng1 {a : Expr} {p : Pos} {j : Int} (hm : X.mg "range" = none) (ha : PAX X [a] Γ o [is X.K j]) (h1 : -(2 ^ 62) ≤ j ∧ j < 2 ^ 62) (hg : Gl X "range" := by rfl) (hs : starEach [a] X.env = [(false, eval a X.env)] := by rfl) :
    PIX X tg (.Call (.Name "range" p) [a] [] pos) Γ o ((rngL 0 j.toNat).map (is X.K)) := by rw [← rngP_eq]; exact i_range1 hm ha h1 hg hs
theorem i_rng2 {a b : Expr} {p : Pos} {i j : Int} (hm : X.mg "range" = none) (ha : PAX X [a, b] Γ o [is X.K i, is X.K j]) (h1 : -(2 ^ 62) ≤ i ∧ i < 2 ^ 62 ∧ -(2 ^ 62) ≤ j ∧ j < 2 ^ 62) (hg : Gl X "range" := by rfl)
    (hs : starEach [a, b] X.env = [(false, eval a X.env), (false, eval b X.env)] := by rfl) (hs2 : starEach [b] X.env = [(false, eval b X.env)] := by rfl) :
    PIX X tg (.Call (.Name "range" p) [a, b] [] pos) Γ o ((rngL i (j - i).toNat).map (is X.K)) := by rw [← rngP_eq]; exact i_range2 hm ha h1 hg hs hs2
theorem i_L {xs : List α} (h : PX X iter Γ o (is X.K xs)) : PIX X tg iter Γ o (xs.map (is X.K)) := i_lst h
theorem i_T {xs : Tup α} (h : PX X iter Γ o (is X.K xs)) : PIX X tg iter Γ o (xs.l.map (is X.K)) := i_tup h
theorem i_3 {d : T3 α α α} (h : PX X iter Γ o (is X.K d)) : PIX X tg iter Γ o ([d.a, d.b, d.c].map (is X.K)) := i_tup h
/-! comprehensions -/
def lcB (xs : List α) (p : α → Bool) (i : Nat) : Bool := match xs[i]? with
  | some a => p a
  | none => false
def lcR (K : Fg) (xs : List α) (f : α → β) (i : Nat) : MP := match xs[i]? with
  | some a => is K (f a)
  | none => anyV
theorem outs_eq {K : Fg} {xs : List α} {p : α → Bool} {f : α → β} : ∀ n, n ≤ xs.length → outs (lcB xs p) (lcR K xs f) n = (((xs.take n).filter p).map f).map (is K)
  | 0, _ => rfl
  | n + 1, h => by
    have hn : n < xs.length := h
    rw [outs_succ, outs_eq n (Nat.le_of_lt hn), List.take_succ_eq_append_getElem hn, List.filter_append, List.map_append, List.map_append]
    congr 1
    have e1 : lcB xs p n = p xs[n] := by unfold lcB; rw [List.getElem?_eq_getElem hn]
    have e2 : lcR K xs f n = is K (f xs[n]) := by unfold lcR; rw [List.getElem?_eq_getElem hn]
    rw [e1, e2]
    cases h : p xs[n] <;> simp [h]
theorem lc_hs {ifs : List Expr} {elt : Expr} {scope : Scope} {own : List (Str × Nat)} {xs : List α} {p : α → Bool} {f : α → β}
    (hs : ∀ a ∈ xs, ∃ Γ' ts, (∀ j ∈ ts, j ∈ own.map (·.2)) ∧ ∀ s H C cl fp, PGX (blkX X scope s H C cl fp) tg (is X.K a) (wipeG Γ (own.map (·.2))) o Γ' ts ∧ PTsX (blkX X scope s H C cl fp) ifs Γ' o (p a) ∧ (p a = true → PX (blkX X scope s H C cl fp) elt Γ' o (is X.K (f a)))) :
    ∀ i P, (xs.map (is X.K))[i]? = some P → ∃ Γ' ts, (∀ j ∈ ts, j ∈ own.map (·.2)) ∧ ∀ s H C cl fp, PGX (blkX X scope s H C cl fp) tg P (wipeG Γ (own.map (·.2))) o Γ' ts ∧ PTsX (blkX X scope s H C cl fp) ifs Γ' o (lcB xs p i) ∧ (lcB xs p i = true → PX (blkX X scope s H C cl fp) elt Γ' o (lcR X.K xs f i)) := by
  intro i P hP
  rw [List.getElem?_map] at hP
  cases ea : xs[i]? with
  | none => rw [ea] at hP; cases hP
  | some a =>
    rw [ea] at hP
    have hP := (Option.some.inj hP).symm
    subst hP
    have e1 : lcB xs p i = p a := by unfold lcB; rw [ea]
    have e2 : lcR X.K xs f i = is X.K (f a) := by unfold lcR; rw [ea]
    rw [e1, e2]
    exact hs a (List.mem_of_getElem? ea)
theorem x_lc {elt : Expr} {ifs : List Expr} {scope : Scope} (own : List (Str × Nat)) {xs : List α} (p : α → Bool) (f : α → β) (nd : X.N.Nodup) (hi : PIX X tg iter Γ o (xs.map (is X.K))) (hn : xs.length ≤ 1000) (ho : ∀ w, o = some w → w.i ∉ own.map (·.2)) (ok : BlkOk X.N X.env.scope scope own)
    (hs : ∀ a ∈ xs, ∃ Γ' ts, (∀ j ∈ ts, j ∈ own.map (·.2)) ∧ ∀ s H C cl fp, PGX (blkX X scope s H C cl fp) tg (is X.K a) (wipeG Γ (own.map (·.2))) o Γ' ts ∧ PTsX (blkX X scope s H C cl fp) ifs Γ' o (p a) ∧ (p a = true → PX (blkX X scope s H C cl fp) elt Γ' o (is X.K (f a))))
    (hc : X.calm = true := by rfl) (hf : ∀ x, foldedSetIterable iter X.env x = pure x := by intro _; rfl) : PX X (.ListComp elt [⟨tg, iter, ifs, 0⟩] scope pos) Γ o (is X.K ((xs.filter p).map f)) := by
  have h := x_lcG (pos := pos) (elt := elt) (lcB xs p) (lcR X.K xs f) nd hi (by rw [List.length_map]; exact hn) ho ok (lc_hs hs) hc hf
  rw [List.length_map, outs_eq xs.length (Nat.le_refl _), List.take_length] at h
  exact h
theorem sx_lc {elt : Expr} {ifs : List Expr} {scope : Scope} {y : Str} {py spos : Pos} (iy : Nat) (own : List (Str × Nat)) {xs : List α} (p : α → Bool) (f : α → β) (nd : X.N.Nodup) (hi : PIX X tg iter Γ o (xs.map (is X.K))) (hn : xs.length ≤ 1000) (ho : ∀ w, o = some w → w.i ∉ own.map (·.2)) (ok : BlkOk X.N X.env.scope scope own)
    (hs : ∀ a ∈ xs, ∃ Γ' ts, (∀ j ∈ ts, j ∈ own.map (·.2)) ∧ ∀ s H C cl fp, PGX (blkX X scope s H C cl fp) tg (is X.K a) (wipeG Γ (own.map (·.2))) o Γ' ts ∧ PTsX (blkX X scope s H C cl fp) ifs Γ' o (p a) ∧ (p a = true → PX (blkX X scope s H C cl fp) elt Γ' o (is X.K (f a))))
    (hsw : swapsWith (.ListComp elt [⟨tg, iter, ifs, 0⟩] scope pos) (some (.Name y py)) spos.line X.env = pure true)
    (hy : X.N[iy]? = some y := by rfl) (hyl : X.env.scope.names.lookup y = some .local := by rfl) (hl : iy < Γ.length := by exact Nat.lt_of_succ_le (Nat.le_of_ble_eq_true rfl)) (hoy : ∀ w, o = some w → w.i ≠ iy := by first | exact no_own | exact own_neL (by decide) | exact own_neI (by decide))
    (hc : X.calm = true := by rfl) (hf : ∀ x, foldedSetIterable iter X.env x = pure x := by intro _; rfl) :
    SX X (.Assign [.Name y py] (.ListComp elt [⟨tg, iter, ifs, 0⟩] scope pos) spos) (as Γ o) (as (Γ.set iy (some (is X.K ((xs.filter p).map f)))) o) Bk Ct R := by
  have h := sx_lcG (Bk := Bk) (Ct := Ct) (R := R) (spos := spos) (py := py) (pos := pos) (elt := elt) iy (lcB xs p) (lcR X.K xs f) nd hi (by rw [List.length_map]; exact hn) ho ok (lc_hs hs) hsw hy hyl hl hoy hc hf
  rw [List.length_map, outs_eq xs.length (Nat.le_refl _), List.take_length] at h
  exact h
/-! a, b = e -/
theorem sx_asg {e : Expr} {P : MP} {Γ' : Gm} (he : PX X e Γ o P) (hg : PGX X tg P Γ o Γ' ts) (ho : ∀ w, o = some w → w.i ∉ ts) (hs : swapsWithSole [tg] e pos.line X.env = pure false := by rfl) (hw : swappedStores [tg] e X.env = pure none := by rfl)
    (h1 : (assignEach [tg] X.env).map (·.2) = [assign tg X.env] := by rfl) : SX X (.Assign [tg] e pos) (as Γ o) (as Γ' o) Bk Ct R := by
  obtain ⟨t, p, f⟩ := he
  obtain ⟨g, pg, fg⟩ := hg
  refine ⟨_, ps_asg p pg hs hw h1, fun B0 H0 σ H D ⟨B, b, gd, ow⟩ d => f σ B H _ gd fun v B1 H1 s1 hv => fg σ B1 H1 v _ (gd.stp s1) hv fun σ' g' k' => d.nx _ _ ⟨B1, b.stp s1, g', fun w l e q => ?_⟩⟩
  rw [k'.at_ w.i (ho w e)] at q
  exact ow w l e q
theorem filt_true {xs : List α} {f : α → β} : (xs.filter fun _ => true).map f = xs.map f := by rw [List.filter_eq_self.mpr fun _ _ => rfl]
end
end L3
set_option maxHeartbeats 400000
namespace Or
open PySem PySem.Spec PyProof.Rows L2 L3
theorem as_own {Γ : Gm} {y C : Addr} {i : Nat} {fs gs : List (Str × MP)} (h : fs = gs) : (as Γ (some (ownI y C i fs))).le (as Γ (some (ownI y C i gs))) := by rw [h]; exact Asn.le_refl _
theorem min4_mem (p q r s : Int) : Iv.min4 p q r s ∈ [p, q, r, s] := by
  unfold Iv.min4
  simp only [List.mem_cons, List.not_mem_nil, or_false]
  omega
theorem min4_le (p q r s : Int) : ∀ y ∈ [p, q, r, s], Iv.min4 p q r s ≤ y := by
  unfold Iv.min4
  intro y hy
  simp only [List.mem_cons, List.not_mem_nil, or_false] at hy
  omega
theorem max4_mem (p q r s : Int) : Iv.max4 p q r s ∈ [p, q, r, s] := by
  unfold Iv.max4
  simp only [List.mem_cons, List.not_mem_nil, or_false]
  omega
theorem max4_le (p q r s : Int) : ∀ y ∈ [p, q, r, s], y ≤ Iv.max4 p q r s := by
  unfold Iv.max4
  intro y hy
  simp only [List.mem_cons, List.not_mem_nil, or_false] at hy
  omega
theorem sm_max {x : Int} (h : Sm 8000 x) : (max x 0).natAbs < 2 ^ 9000 := by
  have h2 := h.mono (show 8000 ≤ 9000 by decide)
  unfold Sm at h2
  have : (max x 0).natAbs ≤ x.natAbs := by omega
  exact Nat.lt_of_le_of_lt this h2
theorem sc_add : FnScope ["a", "b"] ["a", "b"] (defScope st_add) := ⟨rfl, rfl, rfl, by decide +kernel, rfl, by decide +kernel, by decide +kernel⟩
abbrev v_add (a : Iv) (b : Iv) : Iv := Iv.add a b
theorem ok_add {P : Program} {w : World} {K : Fg} {mg : Str → Option Value} {base : Heap} (T : Tx w K mg) : Fok P w K mg base 1 "add" ["a", "b"] (spF (fun a : Iv × Iv => True) (fun a : Iv × Iv => [is K a.1, is K a.2]) fun a => is K (v_add a.1 a.2)) := by
  refine fokR T.fn_add T.glo_add (fun _ _ _ _ _ _ us hl => match us, hl with | [_, _], _ => rfl) sc_add (fun _ => rfl) fun cdv A outer s H E hr a hp => ?_
  obtain ⟨a, b⟩ := a
  have nd := sc_add.nd
  show SXs _ _ (as (G0 [is K a, is K b] _) none) _ _ _ (retV (is K (v_add a b)))
  exact sx_last (sx_retD (x_t2 (xs_cons (x_add (x2a (x_var 0 rfl)) (x2a (x_var 1 rfl))) (xs_cons (x_add (x2b (x_var 0 rfl)) (x2b (x_var 1 rfl))) xs_nil))) rfl)
theorem c_add {X : Cx} {Γ : Gm} {o : Option Own} {e1 e2 : Expr} {p pos : Pos} {a : Iv} {b : Iv} (T : Tx X.w X.K X.mg) (hr : Room 1 X.A) (h : PAX X [e1, e2] Γ o [is X.K a, is X.K b]) (hg : Gl X "add" := by rfl) (he : starEach [e1, e2] X.env = (false, eval e1 X.env) :: starEach [e2] X.env := by rfl) (hpl : (backTo pos (starEach [e2] X.env)).any (·.1) = false := by rfl) : PX X (.Call (.Name "add" p) [e1, e2] [] pos) Γ o (is X.K (v_add a b)) := x_callF (ok_add T) hr (a, b) trivial h rfl hg (by decide) he hpl
theorem sc_subtract : FnScope ["a", "b"] ["a", "b"] (defScope st_subtract) := ⟨rfl, rfl, rfl, by decide +kernel, rfl, by decide +kernel, by decide +kernel⟩
abbrev v_subtract (a : Iv) (b : Iv) : Iv := Iv.sub a b
theorem ok_subtract {P : Program} {w : World} {K : Fg} {mg : Str → Option Value} {base : Heap} (T : Tx w K mg) : Fok P w K mg base 1 "subtract" ["a", "b"] (spF (fun a : Iv × Iv => True) (fun a : Iv × Iv => [is K a.1, is K a.2]) fun a => is K (v_subtract a.1 a.2)) := by
  refine fokR T.fn_subtract T.glo_subtract (fun _ _ _ _ _ _ us hl => match us, hl with | [_, _], _ => rfl) sc_subtract (fun _ => rfl) fun cdv A outer s H E hr a hp => ?_
  obtain ⟨a, b⟩ := a
  have nd := sc_subtract.nd
  show SXs _ _ (as (G0 [is K a, is K b] _) none) _ _ _ (retV (is K (v_subtract a b)))
  exact sx_last (sx_retD (x_t2 (xs_cons (x_sub (x2a (x_var 0 rfl)) (x2b (x_var 1 rfl))) (xs_cons (x_sub (x2b (x_var 0 rfl)) (x2a (x_var 1 rfl))) xs_nil))) rfl)
theorem c_subtract {X : Cx} {Γ : Gm} {o : Option Own} {e1 e2 : Expr} {p pos : Pos} {a : Iv} {b : Iv} (T : Tx X.w X.K X.mg) (hr : Room 1 X.A) (h : PAX X [e1, e2] Γ o [is X.K a, is X.K b]) (hg : Gl X "subtract" := by rfl) (he : starEach [e1, e2] X.env = (false, eval e1 X.env) :: starEach [e2] X.env := by rfl) (hpl : (backTo pos (starEach [e2] X.env)).any (·.1) = false := by rfl) : PX X (.Call (.Name "subtract" p) [e1, e2] [] pos) Γ o (is X.K (v_subtract a b)) := x_callF (ok_subtract T) hr (a, b) trivial h rfl hg (by decide) he hpl
theorem sc_scaled : FnScope ["a", "n"] ["a", "n"] (defScope st_scaled) := ⟨rfl, rfl, rfl, by decide +kernel, rfl, by decide +kernel, by decide +kernel⟩
abbrev v_scaled (a : Iv) (n : Int) : Iv := Iv.scaled a n
def p_scaled (a : Iv) (n : Int) : Prop := Sm 4000 a.a ∧ Sm 4000 a.b ∧ Sm 4000 n
theorem ok_scaled {P : Program} {w : World} {K : Fg} {mg : Str → Option Value} {base : Heap} (T : Tx w K mg) : Fok P w K mg base 1 "scaled" ["a", "n"] (spF (fun a : Iv × Int => p_scaled a.1 a.2) (fun a : Iv × Int => [is K a.1, is K a.2]) fun a => is K (v_scaled a.1 a.2)) := by
  refine fokR T.fn_scaled T.glo_scaled (fun _ _ _ _ _ _ us hl => match us, hl with | [_, _], _ => rfl) sc_scaled (fun _ => rfl) fun cdv A outer s H E hr a hp => ?_
  obtain ⟨a, n⟩ := a
  have nd := sc_scaled.nd
  have hp : p_scaled a n := hp
  show SXs _ _ (as (G0 [is K a, is K n] _) none) _ _ _ (retV (is K (v_scaled a n)))
  refine sx_ifx (t_lt (x_var 1 rfl) x_int) (fun h10 => ?_) (fun h10 => ?_)
  · exact sx_last (sx_retD (x_t2 (xs_cons (x_mul (x2b (x_var 0 rfl)) (x_var 1 rfl) (hp.2.1.mulW hp.2.2)) (xs_cons (x_mul (x2a (x_var 0 rfl)) (x_var 1 rfl) (hp.1.mulW hp.2.2)) xs_nil))) (by unfold v_scaled Iv.scaled; rw [if_pos (of_decide_eq_true h10)]))
  exact sx_last (sx_retD (x_t2 (xs_cons (x_mul (x2a (x_var 0 rfl)) (x_var 1 rfl) (hp.1.mulW hp.2.2)) (xs_cons (x_mul (x2b (x_var 0 rfl)) (x_var 1 rfl) (hp.2.1.mulW hp.2.2)) xs_nil))) (by unfold v_scaled Iv.scaled; rw [if_neg (of_decide_eq_false h10)]))
theorem c_scaled {X : Cx} {Γ : Gm} {o : Option Own} {e1 e2 : Expr} {p pos : Pos} {a : Iv} {n : Int} (T : Tx X.w X.K X.mg) (hr : Room 1 X.A) (h : PAX X [e1, e2] Γ o [is X.K a, is X.K n]) (hp : p_scaled a n) (hg : Gl X "scaled" := by rfl) (he : starEach [e1, e2] X.env = (false, eval e1 X.env) :: starEach [e2] X.env := by rfl) (hpl : (backTo pos (starEach [e2] X.env)).any (·.1) = false := by rfl) : PX X (.Call (.Name "scaled" p) [e1, e2] [] pos) Γ o (is X.K (v_scaled a n)) := x_callF (ok_scaled T) hr (a, n) hp h rfl hg (by decide) he hpl
theorem sc_multiply : FnScope ["a", "b", "ends"] ["a", "b"] (defScope st_multiply) := ⟨rfl, rfl, rfl, by decide +kernel, rfl, by decide +kernel, by decide +kernel⟩
abbrev v_multiply (a : Iv) (b : Iv) : Iv := Iv.mul a b
def p_multiply (a : Iv) (b : Iv) : Prop := Sm 4000 a.a ∧ Sm 4000 a.b ∧ Sm 4000 b.a ∧ Sm 4000 b.b
theorem ok_multiply {P : Program} {w : World} {K : Fg} {mg : Str → Option Value} {base : Heap} (T : Tx w K mg) : Fok P w K mg base 1 "multiply" ["a", "b"] (spF (fun a : Iv × Iv => p_multiply a.1 a.2) (fun a : Iv × Iv => [is K a.1, is K a.2]) fun a => is K (v_multiply a.1 a.2)) := by
  refine fokR T.fn_multiply T.glo_multiply (fun _ _ _ _ _ _ us hl => match us, hl with | [_, _], _ => rfl) sc_multiply (fun _ => rfl) fun cdv A outer s H E hr a hp => ?_
  obtain ⟨a, b⟩ := a
  have nd := sc_multiply.nd
  have hp : p_multiply a b := hp
  show SXs _ _ (as (G0 [is K a, is K b] _) none) _ _ _ (retV (is K (v_multiply a b)))
  refine sx_cons (sx_set 2 nd (x_lst (xs_cons (x_mul (x2a (x_var 0 rfl)) (x2a (x_var 1 rfl)) (hp.1.mulW hp.2.2.1)) (xs_cons (x_mul (x2a (x_var 0 rfl)) (x2b (x_var 1 rfl)) (hp.1.mulW hp.2.2.2)) (xs_cons (x_mul (x2b (x_var 0 rfl)) (x2a (x_var 1 rfl)) (hp.2.1.mulW hp.2.2.1)) (xs_cons (x_mul (x2b (x_var 0 rfl)) (x2b (x_var 1 rfl)) (hp.2.1.mulW hp.2.2.2)) xs_nil)))))) ?_
  exact sx_last (sx_retD (x_t2 (xs_cons (x_minL T.free_min (xs_cons (x_var 2 rfl) xs_nil) (min4_mem _ _ _ _) (min4_le _ _ _ _)) (xs_cons (x_maxL T.free_max (xs_cons (x_var 2 rfl) xs_nil) (max4_mem _ _ _ _) (max4_le _ _ _ _)) xs_nil))) rfl)
theorem c_multiply {X : Cx} {Γ : Gm} {o : Option Own} {e1 e2 : Expr} {p pos : Pos} {a : Iv} {b : Iv} (T : Tx X.w X.K X.mg) (hr : Room 1 X.A) (h : PAX X [e1, e2] Γ o [is X.K a, is X.K b]) (hp : p_multiply a b) (hg : Gl X "multiply" := by rfl) (he : starEach [e1, e2] X.env = (false, eval e1 X.env) :: starEach [e2] X.env := by rfl) (hpl : (backTo pos (starEach [e2] X.env)).any (·.1) = false := by rfl) : PX X (.Call (.Name "multiply" p) [e1, e2] [] pos) Γ o (is X.K (v_multiply a b)) := x_callF (ok_multiply T) hr (a, b) hp h rfl hg (by decide) he hpl
theorem sc_square : FnScope ["a"] ["a"] (defScope st_square) := ⟨rfl, rfl, rfl, by decide +kernel, rfl, by decide +kernel, by decide +kernel⟩
abbrev v_square (a : Iv) : Iv := Iv.square a
def p_square (a : Iv) : Prop := Sm 4000 a.a ∧ Sm 4000 a.b
theorem ok_square {P : Program} {w : World} {K : Fg} {mg : Str → Option Value} {base : Heap} (T : Tx w K mg) : Fok P w K mg base 1 "square" ["a"] (spF (fun a : Iv => p_square a) (fun a : Iv => [is K a]) fun a => is K (v_square a)) := by
  refine fokR T.fn_square T.glo_square (fun _ _ _ _ _ _ us hl => match us, hl with | [_], _ => rfl) sc_square (fun _ => rfl) fun cdv A outer s H E hr a hp => ?_
  have nd := sc_square.nd
  have hp : p_square a := hp
  show SXs _ _ (as (G0 [is K a] _) none) _ _ _ (retV (is K (v_square a)))
  refine sx_ifx (t_ge (x2a (x_var 0 rfl)) x_int) (fun h10 => ?_) (fun h10 => ?_)
  · exact sx_last (sx_retD (x_t2 (xs_cons (x_mul (x2a (x_var 0 rfl)) (x2a (x_var 0 rfl)) (hp.1.mulW hp.1)) (xs_cons (x_mul (x2b (x_var 0 rfl)) (x2b (x_var 0 rfl)) (hp.2.mulW hp.2)) xs_nil))) (by unfold v_square Iv.square; rw [if_pos (of_decide_eq_true h10)]))
  refine sx_ifx (t_le (x2b (x_var 0 rfl)) x_int) (fun h11 => ?_) (fun h11 => ?_)
  · exact sx_last (sx_retD (x_t2 (xs_cons (x_mul (x2b (x_var 0 rfl)) (x2b (x_var 0 rfl)) (hp.2.mulW hp.2)) (xs_cons (x_mul (x2a (x_var 0 rfl)) (x2a (x_var 0 rfl)) (hp.1.mulW hp.1)) xs_nil))) (by unfold v_square Iv.square; rw [if_neg (of_decide_eq_false h10), if_pos (of_decide_eq_true h11)]))
  exact sx_last (sx_retD (x_t2 (xs_cons x_int (xs_cons (x_max2 T.free_max (xs_cons (x_mul (x2a (x_var 0 rfl)) (x2a (x_var 0 rfl)) (hp.1.mulW hp.1)) (xs_cons (x_mul (x2b (x_var 0 rfl)) (x2b (x_var 0 rfl)) (hp.2.mulW hp.2)) xs_nil))) xs_nil))) (by unfold v_square Iv.square; rw [if_neg (of_decide_eq_false h10), if_neg (of_decide_eq_false h11)]))
theorem c_square {X : Cx} {Γ : Gm} {o : Option Own} {e1 : Expr} {p pos : Pos} {a : Iv} (T : Tx X.w X.K X.mg) (hr : Room 1 X.A) (h : PAX X [e1] Γ o [is X.K a]) (hp : p_square a) (hg : Gl X "square" := by rfl) (he : starEach [e1] X.env = (false, eval e1 X.env) :: starEach [] X.env := by rfl) (hpl : (backTo pos (starEach [] X.env)).any (·.1) = false := by rfl) : PX X (.Call (.Name "square" p) [e1] [] pos) Γ o (is X.K (v_square a)) := x_callF (ok_square T) hr (a) hp h rfl hg (by decide) he hpl
theorem sc_quotient : FnScope ["a", "d", "low"] ["a", "d"] (defScope st_quotient) := ⟨rfl, rfl, rfl, by decide +kernel, rfl, by decide +kernel, by decide +kernel⟩
abbrev v_quotient (a : Iv) (d : Iv) : Iv := Iv.quot a d
def p_quotient (a : Iv) (d : Iv) : Prop := 0 < d.a ∧ 0 < d.b ∧ Sm 8000 d.a ∧ Sm 8000 d.b
theorem ok_quotient {P : Program} {w : World} {K : Fg} {mg : Str → Option Value} {base : Heap} (T : Tx w K mg) : Fok P w K mg base 1 "quotient" ["a", "d"] (spF (fun a : Iv × Iv => p_quotient a.1 a.2) (fun a : Iv × Iv => [is K a.1, is K a.2]) fun a => is K (v_quotient a.1 a.2)) := by
  refine fokR T.fn_quotient T.glo_quotient (fun _ _ _ _ _ _ us hl => match us, hl with | [_, _], _ => rfl) sc_quotient (fun _ => rfl) fun cdv A outer s H E hr a hp => ?_
  obtain ⟨a, d⟩ := a
  have nd := sc_quotient.nd
  have hp : p_quotient a d := hp
  show SXs _ _ (as (G0 [is K a, is K d] _) none) _ _ _ (retV (is K (v_quotient a d)))
  refine sx_cons (sx_set 2 nd (x_min2 T.free_min (xs_cons (x_div (x2a (x_var 0 rfl)) (x2a (x_var 1 rfl)) (hp.2.2.1.divW hp.1)) (xs_cons (x_div (x2a (x_var 0 rfl)) (x2b (x_var 1 rfl)) (hp.2.2.2.divW hp.2.1)) xs_nil)))) ?_
  exact sx_last (sx_retD (x_t2 (xs_cons (x_var 2 rfl) (xs_cons (x_max2 T.free_max (xs_cons (x_div (x2b (x_var 0 rfl)) (x2a (x_var 1 rfl)) (hp.2.2.1.divW hp.1)) (xs_cons (x_div (x2b (x_var 0 rfl)) (x2b (x_var 1 rfl)) (hp.2.2.2.divW hp.2.1)) xs_nil))) xs_nil))) rfl)
theorem c_quotient {X : Cx} {Γ : Gm} {o : Option Own} {e1 e2 : Expr} {p pos : Pos} {a : Iv} {d : Iv} (T : Tx X.w X.K X.mg) (hr : Room 1 X.A) (h : PAX X [e1, e2] Γ o [is X.K a, is X.K d]) (hp : p_quotient a d) (hg : Gl X "quotient" := by rfl) (he : starEach [e1, e2] X.env = (false, eval e1 X.env) :: starEach [e2] X.env := by rfl) (hpl : (backTo pos (starEach [e2] X.env)).any (·.1) = false := by rfl) : PX X (.Call (.Name "quotient" p) [e1, e2] [] pos) Γ o (is X.K (v_quotient a d)) := x_callF (ok_quotient T) hr (a, d) hp h rfl hg (by decide) he hpl
theorem sc_root : FnScope ["a"] ["a"] (defScope st_root) := ⟨rfl, rfl, rfl, by decide +kernel, rfl, by decide +kernel, by decide +kernel⟩
abbrev v_root (a : Iv) : Iv := Iv.root a
def p_root (a : Iv) : Prop := 0 ≤ a.b ∧ Sm 8000 a.a ∧ Sm 8000 a.b
theorem ok_root {P : Program} {w : World} {K : Fg} {mg : Str → Option Value} {base : Heap} (T : Tx w K mg) : Fok P w K mg base 1 "root" ["a"] (spF (fun a : Iv => p_root a) (fun a : Iv => [is K a]) fun a => is K (v_root a)) := by
  refine fokR T.fn_root T.glo_root (fun _ _ _ _ _ _ us hl => match us, hl with | [_], _ => rfl) sc_root (fun _ => rfl) fun cdv A outer s H E hr a hp => ?_
  have nd := sc_root.nd
  have hp : p_root a := hp
  show SXs _ _ (as (G0 [is K a] _) none) _ _ _ (retV (is K (v_root a)))
  exact sx_last (sx_retD (x_t2 (xs_cons (x_isqrt T.isq (xs_cons (x_max2 T.free_max (xs_cons (x2a (x_var 0 rfl)) (xs_cons x_int xs_nil))) xs_nil) (by omega) (sm_max hp.2.1)) (xs_cons (x_isqrt T.isq (xs_cons (x2b (x_var 0 rfl)) xs_nil) hp.1 (hp.2.2.mono (by decide))) xs_nil))) rfl)
theorem c_root {X : Cx} {Γ : Gm} {o : Option Own} {e1 : Expr} {p pos : Pos} {a : Iv} (T : Tx X.w X.K X.mg) (hr : Room 1 X.A) (h : PAX X [e1] Γ o [is X.K a]) (hp : p_root a) (hg : Gl X "root" := by rfl) (he : starEach [e1] X.env = (false, eval e1 X.env) :: starEach [] X.env := by rfl) (hpl : (backTo pos (starEach [] X.env)).any (·.1) = false := by rfl) : PX X (.Call (.Name "root" p) [e1] [] pos) Γ o (is X.K (v_root a)) := x_callF (ok_root T) hr (a) hp h rfl hg (by decide) he hpl
theorem sc_meet : FnScope ["a", "b", "low", "high"] ["a", "b"] (defScope st_meet) := ⟨rfl, rfl, rfl, by decide +kernel, rfl, by decide +kernel, by decide +kernel⟩
abbrev v_meet (a : Iv) (b : Iv) : Option (Iv) := Iv.meet a b
theorem ok_meet {P : Program} {w : World} {K : Fg} {mg : Str → Option Value} {base : Heap} (T : Tx w K mg) : Fok P w K mg base 1 "meet" ["a", "b"] (spF (fun a : Iv × Iv => True) (fun a : Iv × Iv => [is K a.1, is K a.2]) fun a => is K (v_meet a.1 a.2)) := by
  refine fokR T.fn_meet T.glo_meet (fun _ _ _ _ _ _ us hl => match us, hl with | [_, _], _ => rfl) sc_meet (fun _ => rfl) fun cdv A outer s H E hr a hp => ?_
  obtain ⟨a, b⟩ := a
  have nd := sc_meet.nd
  show SXs _ _ (as (G0 [is K a, is K b] _) none) _ _ _ (retV (is K (v_meet a b)))
  refine sx_cons (sx_set 2 nd (x_max2 T.free_max (xs_cons (x2a (x_var 0 rfl)) (xs_cons (x2a (x_var 1 rfl)) xs_nil)))) ?_
  refine sx_cons (sx_set 3 nd (x_min2 T.free_min (xs_cons (x2b (x_var 0 rfl)) (xs_cons (x2b (x_var 1 rfl)) xs_nil)))) ?_
  refine sx_ifx (t_gt (x_var 2 rfl) (x_var 3 rfl)) (fun h12 => ?_) (fun h12 => ?_)
  · exact sx_last (sx_retNo x_non (by unfold v_meet Iv.meet; rw [if_pos (of_decide_eq_true h12)]))
  exact sx_last (sx_retS (x_t2 (xs_cons (x_var 2 rfl) (xs_cons (x_var 3 rfl) xs_nil))) (by unfold v_meet Iv.meet; rw [if_neg (of_decide_eq_false h12)]))
theorem c_meet {X : Cx} {Γ : Gm} {o : Option Own} {e1 e2 : Expr} {p pos : Pos} {a : Iv} {b : Iv} (T : Tx X.w X.K X.mg) (hr : Room 1 X.A) (h : PAX X [e1, e2] Γ o [is X.K a, is X.K b]) (hg : Gl X "meet" := by rfl) (he : starEach [e1, e2] X.env = (false, eval e1 X.env) :: starEach [e2] X.env := by rfl) (hpl : (backTo pos (starEach [e2] X.env)).any (·.1) = false := by rfl) : PX X (.Call (.Name "meet" p) [e1, e2] [] pos) Γ o (is X.K (v_meet a b)) := x_callF (ok_meet T) hr (a, b) trivial h rfl hg (by decide) he hpl
theorem sc_hull : FnScope ["a", "b"] ["a", "b"] (defScope st_hull) := ⟨rfl, rfl, rfl, by decide +kernel, rfl, by decide +kernel, by decide +kernel⟩
abbrev v_hull (a : Iv) (b : Iv) : Iv := Iv.hull a b
theorem ok_hull {P : Program} {w : World} {K : Fg} {mg : Str → Option Value} {base : Heap} (T : Tx w K mg) : Fok P w K mg base 1 "hull" ["a", "b"] (spF (fun a : Iv × Iv => True) (fun a : Iv × Iv => [is K a.1, is K a.2]) fun a => is K (v_hull a.1 a.2)) := by
  refine fokR T.fn_hull T.glo_hull (fun _ _ _ _ _ _ us hl => match us, hl with | [_, _], _ => rfl) sc_hull (fun _ => rfl) fun cdv A outer s H E hr a hp => ?_
  obtain ⟨a, b⟩ := a
  have nd := sc_hull.nd
  show SXs _ _ (as (G0 [is K a, is K b] _) none) _ _ _ (retV (is K (v_hull a b)))
  exact sx_last (sx_retD (x_t2 (xs_cons (x_min2 T.free_min (xs_cons (x2a (x_var 0 rfl)) (xs_cons (x2a (x_var 1 rfl)) xs_nil))) (xs_cons (x_max2 T.free_max (xs_cons (x2b (x_var 0 rfl)) (xs_cons (x2b (x_var 1 rfl)) xs_nil))) xs_nil))) rfl)
theorem c_hull {X : Cx} {Γ : Gm} {o : Option Own} {e1 e2 : Expr} {p pos : Pos} {a : Iv} {b : Iv} (T : Tx X.w X.K X.mg) (hr : Room 1 X.A) (h : PAX X [e1, e2] Γ o [is X.K a, is X.K b]) (hg : Gl X "hull" := by rfl) (he : starEach [e1, e2] X.env = (false, eval e1 X.env) :: starEach [e2] X.env := by rfl) (hpl : (backTo pos (starEach [e2] X.env)).any (·.1) = false := by rfl) : PX X (.Call (.Name "hull" p) [e1, e2] [] pos) Γ o (is X.K (v_hull a b)) := x_callF (ok_hull T) hr (a, b) trivial h rfl hg (by decide) he hpl
theorem sc_widened : FnScope ["a", "w"] ["a", "w"] (defScope st_widened) := ⟨rfl, rfl, rfl, by decide +kernel, rfl, by decide +kernel, by decide +kernel⟩
abbrev v_widened (a : Iv) (w : Int) : Iv := Iv.widened a w
theorem ok_widened {P : Program} {w : World} {K : Fg} {mg : Str → Option Value} {base : Heap} (T : Tx w K mg) : Fok P w K mg base 1 "widened" ["a", "w"] (spF (fun a : Iv × Int => True) (fun a : Iv × Int => [is K a.1, is K a.2]) fun a => is K (v_widened a.1 a.2)) := by
  refine fokR T.fn_widened T.glo_widened (fun _ _ _ _ _ _ us hl => match us, hl with | [_, _], _ => rfl) sc_widened (fun _ => rfl) fun cdv A outer s H E hr a hp => ?_
  obtain ⟨a, w⟩ := a
  have nd := sc_widened.nd
  show SXs _ _ (as (G0 [is K a, is K w] _) none) _ _ _ (retV (is K (v_widened a w)))
  exact sx_last (sx_retD (x_t2 (xs_cons (x_sub (x2a (x_var 0 rfl)) (x_var 1 rfl)) (xs_cons (x_add (x2b (x_var 0 rfl)) (x_var 1 rfl)) xs_nil))) rfl)
theorem c_widened {X : Cx} {Γ : Gm} {o : Option Own} {e1 e2 : Expr} {p pos : Pos} {a : Iv} {w : Int} (T : Tx X.w X.K X.mg) (hr : Room 1 X.A) (h : PAX X [e1, e2] Γ o [is X.K a, is X.K w]) (hg : Gl X "widened" := by rfl) (he : starEach [e1, e2] X.env = (false, eval e1 X.env) :: starEach [e2] X.env := by rfl) (hpl : (backTo pos (starEach [e2] X.env)).any (·.1) = false := by rfl) : PX X (.Call (.Name "widened" p) [e1, e2] [] pos) Γ o (is X.K (v_widened a w)) := x_callF (ok_widened T) hr (a, w) trivial h rfl hg (by decide) he hpl
theorem sc_middle : FnScope ["a"] ["a"] (defScope st_middle) := ⟨rfl, rfl, rfl, by decide +kernel, rfl, by decide +kernel, by decide +kernel⟩
abbrev v_middle (a : Iv) : Int := Iv.middle a
theorem ok_middle {P : Program} {w : World} {K : Fg} {mg : Str → Option Value} {base : Heap} (T : Tx w K mg) : Fok P w K mg base 1 "middle" ["a"] (spF (fun a : Iv => True) (fun a : Iv => [is K a]) fun a => is K (v_middle a)) := by
  refine fokR T.fn_middle T.glo_middle (fun _ _ _ _ _ _ us hl => match us, hl with | [_], _ => rfl) sc_middle (fun _ => rfl) fun cdv A outer s H E hr a hp => ?_
  have nd := sc_middle.nd
  show SXs _ _ (as (G0 [is K a] _) none) _ _ _ (retV (is K (v_middle a)))
  exact sx_last (sx_retD (x_div (x_add (x2a (x_var 0 rfl)) (x2b (x_var 0 rfl))) x_int (by unfold CDivW; decide)) rfl)
theorem c_middle {X : Cx} {Γ : Gm} {o : Option Own} {e1 : Expr} {p pos : Pos} {a : Iv} (T : Tx X.w X.K X.mg) (hr : Room 1 X.A) (h : PAX X [e1] Γ o [is X.K a]) (hg : Gl X "middle" := by rfl) (he : starEach [e1] X.env = (false, eval e1 X.env) :: starEach [] X.env := by rfl) (hpl : (backTo pos (starEach [] X.env)).any (·.1) = false := by rfl) : PX X (.Call (.Name "middle" p) [e1] [] pos) Γ o (is X.K (v_middle a)) := x_callF (ok_middle T) hr (a) trivial h rfl hg (by decide) he hpl
theorem sc_width : FnScope ["a"] ["a"] (defScope st_width) := ⟨rfl, rfl, rfl, by decide +kernel, rfl, by decide +kernel, by decide +kernel⟩
abbrev v_width (a : Iv) : Int := Iv.width a
theorem ok_width {P : Program} {w : World} {K : Fg} {mg : Str → Option Value} {base : Heap} (T : Tx w K mg) : Fok P w K mg base 1 "width" ["a"] (spF (fun a : Iv => True) (fun a : Iv => [is K a]) fun a => is K (v_width a)) := by
  refine fokR T.fn_width T.glo_width (fun _ _ _ _ _ _ us hl => match us, hl with | [_], _ => rfl) sc_width (fun _ => rfl) fun cdv A outer s H E hr a hp => ?_
  have nd := sc_width.nd
  show SXs _ _ (as (G0 [is K a] _) none) _ _ _ (retV (is K (v_width a)))
  exact sx_last (sx_retD (x_sub (x2b (x_var 0 rfl)) (x2a (x_var 0 rfl))) rfl)
theorem c_width {X : Cx} {Γ : Gm} {o : Option Own} {e1 : Expr} {p pos : Pos} {a : Iv} (T : Tx X.w X.K X.mg) (hr : Room 1 X.A) (h : PAX X [e1] Γ o [is X.K a]) (hg : Gl X "width" := by rfl) (he : starEach [e1] X.env = (false, eval e1 X.env) :: starEach [] X.env := by rfl) (hpl : (backTo pos (starEach [] X.env)).any (·.1) = false := by rfl) : PX X (.Call (.Name "width" p) [e1] [] pos) Γ o (is X.K (v_width a)) := x_callF (ok_width T) hr (a) trivial h rfl hg (by decide) he hpl
theorem sc_size : FnScope ["a"] ["a"] (defScope st_size) := ⟨rfl, rfl, rfl, by decide +kernel, rfl, by decide +kernel, by decide +kernel⟩
abbrev v_size (a : Iv) : Int := Iv.size a
theorem ok_size {P : Program} {w : World} {K : Fg} {mg : Str → Option Value} {base : Heap} (T : Tx w K mg) : Fok P w K mg base 1 "size" ["a"] (spF (fun a : Iv => True) (fun a : Iv => [is K a]) fun a => is K (v_size a)) := by
  refine fokR T.fn_size T.glo_size (fun _ _ _ _ _ _ us hl => match us, hl with | [_], _ => rfl) sc_size (fun _ => rfl) fun cdv A outer s H E hr a hp => ?_
  have nd := sc_size.nd
  show SXs _ _ (as (G0 [is K a] _) none) _ _ _ (retV (is K (v_size a)))
  exact sx_last (sx_retD (x_max2 T.free_max (xs_cons (x_abs T.free_abs (xs_cons (x2a (x_var 0 rfl)) xs_nil)) (xs_cons (x_abs T.free_abs (xs_cons (x2b (x_var 0 rfl)) xs_nil)) xs_nil))) rfl)
theorem c_size {X : Cx} {Γ : Gm} {o : Option Own} {e1 : Expr} {p pos : Pos} {a : Iv} (T : Tx X.w X.K X.mg) (hr : Room 1 X.A) (h : PAX X [e1] Γ o [is X.K a]) (hg : Gl X "size" := by rfl) (he : starEach [e1] X.env = (false, eval e1 X.env) :: starEach [] X.env := by rfl) (hpl : (backTo pos (starEach [] X.env)).any (·.1) = false := by rfl) : PX X (.Call (.Name "size" p) [e1] [] pos) Γ o (is X.K (v_size a)) := x_callF (ok_size T) hr (a) trivial h rfl hg (by decide) he hpl
theorem sc_inside : FnScope ["inner", "outer"] ["inner", "outer"] (defScope st_inside) := ⟨rfl, rfl, rfl, by decide +kernel, rfl, by decide +kernel, by decide +kernel⟩
abbrev v_inside (inner : Iv) (outer : Iv) : Bool := Iv.inside inner outer
theorem ok_inside {P : Program} {w : World} {K : Fg} {mg : Str → Option Value} {base : Heap} (T : Tx w K mg) : Fok P w K mg base 1 "inside" ["inner", "outer"] (spF (fun a : Iv × Iv => True) (fun a : Iv × Iv => [is K a.1, is K a.2]) fun a => is K (v_inside a.1 a.2)) := by
  refine fokR T.fn_inside T.glo_inside (fun _ _ _ _ _ _ us hl => match us, hl with | [_, _], _ => rfl) sc_inside (fun _ => rfl) fun cdv A outer s H E hr a hp => ?_
  obtain ⟨inner, outer⟩ := a
  have nd := sc_inside.nd
  show SXs _ _ (as (G0 [is K inner, is K outer] _) none) _ _ _ (retV (is K (v_inside inner outer)))
  exact sx_last (sx_retD (x_and (x_cmp op_le (nomark _) (x2a (x_var 1 rfl)) (x2a (x_var 0 rfl))) fun _ => (x_one (x_cmp op_le (nomark _) (x2b (x_var 0 rfl)) (x2b (x_var 1 rfl))))) rfl)
theorem c_inside {X : Cx} {Γ : Gm} {o : Option Own} {e1 e2 : Expr} {p pos : Pos} {inner : Iv} {outer : Iv} (T : Tx X.w X.K X.mg) (hr : Room 1 X.A) (h : PAX X [e1, e2] Γ o [is X.K inner, is X.K outer]) (hg : Gl X "inside" := by rfl) (he : starEach [e1, e2] X.env = (false, eval e1 X.env) :: starEach [e2] X.env := by rfl) (hpl : (backTo pos (starEach [e2] X.env)).any (·.1) = false := by rfl) : PX X (.Call (.Name "inside" p) [e1, e2] [] pos) Γ o (is X.K (v_inside inner outer)) := x_callF (ok_inside T) hr (inner, outer) trivial h rfl hg (by decide) he hpl
theorem sc_has : FnScope ["a", "n"] ["a", "n"] (defScope st_has) := ⟨rfl, rfl, rfl, by decide +kernel, rfl, by decide +kernel, by decide +kernel⟩
abbrev v_has (a : Iv) (n : Int) : Bool := Iv.has a n
theorem ok_has {P : Program} {w : World} {K : Fg} {mg : Str → Option Value} {base : Heap} (T : Tx w K mg) : Fok P w K mg base 1 "has" ["a", "n"] (spF (fun a : Iv × Int => True) (fun a : Iv × Int => [is K a.1, is K a.2]) fun a => is K (v_has a.1 a.2)) := by
  refine fokR T.fn_has T.glo_has (fun _ _ _ _ _ _ us hl => match us, hl with | [_, _], _ => rfl) sc_has (fun _ => rfl) fun cdv A outer s H E hr a hp => ?_
  obtain ⟨a, n⟩ := a
  have nd := sc_has.nd
  show SXs _ _ (as (G0 [is K a, is K n] _) none) _ _ _ (retV (is K (v_has a n)))
  exact sx_last (sx_retD (x_chain op_le op_le (x2a (x_var 0 rfl)) (x_var 1 rfl) (x2b (x_var 0 rfl))) rfl)
theorem c_has {X : Cx} {Γ : Gm} {o : Option Own} {e1 e2 : Expr} {p pos : Pos} {a : Iv} {n : Int} (T : Tx X.w X.K X.mg) (hr : Room 1 X.A) (h : PAX X [e1, e2] Γ o [is X.K a, is X.K n]) (hg : Gl X "has" := by rfl) (he : starEach [e1, e2] X.env = (false, eval e1 X.env) :: starEach [e2] X.env := by rfl) (hpl : (backTo pos (starEach [e2] X.env)).any (·.1) = false := by rfl) : PX X (.Call (.Name "has" p) [e1, e2] [] pos) Γ o (is X.K (v_has a n)) := x_callF (ok_has T) hr (a, n) trivial h rfl hg (by decide) he hpl
theorem sc_box_add : FnScope ["a", "b"] ["a", "b"] (defScope st_box_add) := ⟨rfl, rfl, rfl, by decide +kernel, rfl, by decide +kernel, by decide +kernel⟩
abbrev v_box_add (a : Box) (b : Box) : Box := Box.add a b
theorem ok_box_add {P : Program} {w : World} {K : Fg} {mg : Str → Option Value} {base : Heap} (T : Tx w K mg) : Fok P w K mg base 2 "box_add" ["a", "b"] (spF (fun a : Box × Box => True) (fun a : Box × Box => [is K a.1, is K a.2]) fun a => is K (v_box_add a.1 a.2)) := by
  refine fokR T.fn_box_add T.glo_box_add (fun _ _ _ _ _ _ us hl => match us, hl with | [_, _], _ => rfl) sc_box_add (fun _ => rfl) fun cdv A outer s H E hr a hp => ?_
  obtain ⟨a, b⟩ := a
  have nd := sc_box_add.nd
  show SXs _ _ (as (G0 [is K a, is K b] _) none) _ _ _ (retV (is K (v_box_add a b)))
  exact sx_last (sx_retD (x_t3 (xs_cons (c_add T (hr.mono (by decide)) (xs_cons (x3a (x_var 0 rfl)) (xs_cons (x3a (x_var 1 rfl)) xs_nil))) (xs_cons (c_add T (hr.mono (by decide)) (xs_cons (x3b (x_var 0 rfl)) (xs_cons (x3b (x_var 1 rfl)) xs_nil))) (xs_cons (c_add T (hr.mono (by decide)) (xs_cons (x3c (x_var 0 rfl)) (xs_cons (x3c (x_var 1 rfl)) xs_nil))) xs_nil)))) rfl)
theorem c_box_add {X : Cx} {Γ : Gm} {o : Option Own} {e1 e2 : Expr} {p pos : Pos} {a : Box} {b : Box} (T : Tx X.w X.K X.mg) (hr : Room 2 X.A) (h : PAX X [e1, e2] Γ o [is X.K a, is X.K b]) (hg : Gl X "box_add" := by rfl) (he : starEach [e1, e2] X.env = (false, eval e1 X.env) :: starEach [e2] X.env := by rfl) (hpl : (backTo pos (starEach [e2] X.env)).any (·.1) = false := by rfl) : PX X (.Call (.Name "box_add" p) [e1, e2] [] pos) Γ o (is X.K (v_box_add a b)) := x_callF (ok_box_add T) hr (a, b) trivial h rfl hg (by decide) he hpl
theorem sc_box_subtract : FnScope ["a", "b"] ["a", "b"] (defScope st_box_subtract) := ⟨rfl, rfl, rfl, by decide +kernel, rfl, by decide +kernel, by decide +kernel⟩
abbrev v_box_subtract (a : Box) (b : Box) : Box := Box.sub a b
theorem ok_box_subtract {P : Program} {w : World} {K : Fg} {mg : Str → Option Value} {base : Heap} (T : Tx w K mg) : Fok P w K mg base 2 "box_subtract" ["a", "b"] (spF (fun a : Box × Box => True) (fun a : Box × Box => [is K a.1, is K a.2]) fun a => is K (v_box_subtract a.1 a.2)) := by
  refine fokR T.fn_box_subtract T.glo_box_subtract (fun _ _ _ _ _ _ us hl => match us, hl with | [_, _], _ => rfl) sc_box_subtract (fun _ => rfl) fun cdv A outer s H E hr a hp => ?_
  obtain ⟨a, b⟩ := a
  have nd := sc_box_subtract.nd
  show SXs _ _ (as (G0 [is K a, is K b] _) none) _ _ _ (retV (is K (v_box_subtract a b)))
  exact sx_last (sx_retD (x_t3 (xs_cons (c_subtract T (hr.mono (by decide)) (xs_cons (x3a (x_var 0 rfl)) (xs_cons (x3a (x_var 1 rfl)) xs_nil))) (xs_cons (c_subtract T (hr.mono (by decide)) (xs_cons (x3b (x_var 0 rfl)) (xs_cons (x3b (x_var 1 rfl)) xs_nil))) (xs_cons (c_subtract T (hr.mono (by decide)) (xs_cons (x3c (x_var 0 rfl)) (xs_cons (x3c (x_var 1 rfl)) xs_nil))) xs_nil)))) rfl)
theorem c_box_subtract {X : Cx} {Γ : Gm} {o : Option Own} {e1 e2 : Expr} {p pos : Pos} {a : Box} {b : Box} (T : Tx X.w X.K X.mg) (hr : Room 2 X.A) (h : PAX X [e1, e2] Γ o [is X.K a, is X.K b]) (hg : Gl X "box_subtract" := by rfl) (he : starEach [e1, e2] X.env = (false, eval e1 X.env) :: starEach [e2] X.env := by rfl) (hpl : (backTo pos (starEach [e2] X.env)).any (·.1) = false := by rfl) : PX X (.Call (.Name "box_subtract" p) [e1, e2] [] pos) Γ o (is X.K (v_box_subtract a b)) := x_callF (ok_box_subtract T) hr (a, b) trivial h rfl hg (by decide) he hpl
theorem sc_box_hull : FnScope ["a", "b"] ["a", "b"] (defScope st_box_hull) := ⟨rfl, rfl, rfl, by decide +kernel, rfl, by decide +kernel, by decide +kernel⟩
abbrev v_box_hull (a : Box) (b : Box) : Box := Box.hull a b
theorem ok_box_hull {P : Program} {w : World} {K : Fg} {mg : Str → Option Value} {base : Heap} (T : Tx w K mg) : Fok P w K mg base 2 "box_hull" ["a", "b"] (spF (fun a : Box × Box => True) (fun a : Box × Box => [is K a.1, is K a.2]) fun a => is K (v_box_hull a.1 a.2)) := by
  refine fokR T.fn_box_hull T.glo_box_hull (fun _ _ _ _ _ _ us hl => match us, hl with | [_, _], _ => rfl) sc_box_hull (fun _ => rfl) fun cdv A outer s H E hr a hp => ?_
  obtain ⟨a, b⟩ := a
  have nd := sc_box_hull.nd
  show SXs _ _ (as (G0 [is K a, is K b] _) none) _ _ _ (retV (is K (v_box_hull a b)))
  exact sx_last (sx_retD (x_t3 (xs_cons (c_hull T (hr.mono (by decide)) (xs_cons (x3a (x_var 0 rfl)) (xs_cons (x3a (x_var 1 rfl)) xs_nil))) (xs_cons (c_hull T (hr.mono (by decide)) (xs_cons (x3b (x_var 0 rfl)) (xs_cons (x3b (x_var 1 rfl)) xs_nil))) (xs_cons (c_hull T (hr.mono (by decide)) (xs_cons (x3c (x_var 0 rfl)) (xs_cons (x3c (x_var 1 rfl)) xs_nil))) xs_nil)))) rfl)
theorem c_box_hull {X : Cx} {Γ : Gm} {o : Option Own} {e1 e2 : Expr} {p pos : Pos} {a : Box} {b : Box} (T : Tx X.w X.K X.mg) (hr : Room 2 X.A) (h : PAX X [e1, e2] Γ o [is X.K a, is X.K b]) (hg : Gl X "box_hull" := by rfl) (he : starEach [e1, e2] X.env = (false, eval e1 X.env) :: starEach [e2] X.env := by rfl) (hpl : (backTo pos (starEach [e2] X.env)).any (·.1) = false := by rfl) : PX X (.Call (.Name "box_hull" p) [e1, e2] [] pos) Γ o (is X.K (v_box_hull a b)) := x_callF (ok_box_hull T) hr (a, b) trivial h rfl hg (by decide) he hpl
theorem sc_box_widened : FnScope ["a", "w"] ["a", "w"] (defScope st_box_widened) := ⟨rfl, rfl, rfl, by decide +kernel, rfl, by decide +kernel, by decide +kernel⟩
abbrev v_box_widened (a : Box) (w : Int) : Box := Box.widened a w
theorem ok_box_widened {P : Program} {w : World} {K : Fg} {mg : Str → Option Value} {base : Heap} (T : Tx w K mg) : Fok P w K mg base 2 "box_widened" ["a", "w"] (spF (fun a : Box × Int => True) (fun a : Box × Int => [is K a.1, is K a.2]) fun a => is K (v_box_widened a.1 a.2)) := by
  refine fokR T.fn_box_widened T.glo_box_widened (fun _ _ _ _ _ _ us hl => match us, hl with | [_, _], _ => rfl) sc_box_widened (fun _ => rfl) fun cdv A outer s H E hr a hp => ?_
  obtain ⟨a, w⟩ := a
  have nd := sc_box_widened.nd
  show SXs _ _ (as (G0 [is K a, is K w] _) none) _ _ _ (retV (is K (v_box_widened a w)))
  exact sx_last (sx_retD (x_t3 (xs_cons (c_widened T (hr.mono (by decide)) (xs_cons (x3a (x_var 0 rfl)) (xs_cons (x_var 1 rfl) xs_nil))) (xs_cons (c_widened T (hr.mono (by decide)) (xs_cons (x3b (x_var 0 rfl)) (xs_cons (x_var 1 rfl) xs_nil))) (xs_cons (c_widened T (hr.mono (by decide)) (xs_cons (x3c (x_var 0 rfl)) (xs_cons (x_var 1 rfl) xs_nil))) xs_nil)))) rfl)
theorem c_box_widened {X : Cx} {Γ : Gm} {o : Option Own} {e1 e2 : Expr} {p pos : Pos} {a : Box} {w : Int} (T : Tx X.w X.K X.mg) (hr : Room 2 X.A) (h : PAX X [e1, e2] Γ o [is X.K a, is X.K w]) (hg : Gl X "box_widened" := by rfl) (he : starEach [e1, e2] X.env = (false, eval e1 X.env) :: starEach [e2] X.env := by rfl) (hpl : (backTo pos (starEach [e2] X.env)).any (·.1) = false := by rfl) : PX X (.Call (.Name "box_widened" p) [e1, e2] [] pos) Γ o (is X.K (v_box_widened a w)) := x_callF (ok_box_widened T) hr (a, w) trivial h rfl hg (by decide) he hpl
theorem sc_box_meet : FnScope ["a", "b", "x", "y", "z"] ["a", "b"] (defScope st_box_meet) := ⟨rfl, rfl, rfl, by decide +kernel, rfl, by decide +kernel, by decide +kernel⟩
abbrev v_box_meet (a : Box) (b : Box) : Option (Box) := Box.meet a b
theorem ok_box_meet {P : Program} {w : World} {K : Fg} {mg : Str → Option Value} {base : Heap} (T : Tx w K mg) : Fok P w K mg base 2 "box_meet" ["a", "b"] (spF (fun a : Box × Box => True) (fun a : Box × Box => [is K a.1, is K a.2]) fun a => is K (v_box_meet a.1 a.2)) := by
  refine fokR T.fn_box_meet T.glo_box_meet (fun _ _ _ _ _ _ us hl => match us, hl with | [_, _], _ => rfl) sc_box_meet (fun _ => rfl) fun cdv A outer s H E hr a hp => ?_
  obtain ⟨a, b⟩ := a
  have nd := sc_box_meet.nd
  show SXs _ _ (as (G0 [is K a, is K b] _) none) _ _ _ (retV (is K (v_box_meet a b)))
  refine sx_cons (sx_set 2 nd (c_meet T (hr.mono (by decide)) (xs_cons (x3a (x_var 0 rfl)) (xs_cons (x3a (x_var 1 rfl)) xs_nil)))) ?_
  refine sx_cons (sx_set 3 nd (c_meet T (hr.mono (by decide)) (xs_cons (x3b (x_var 0 rfl)) (xs_cons (x3b (x_var 1 rfl)) xs_nil)))) ?_
  refine sx_cons (sx_set 4 nd (c_meet T (hr.mono (by decide)) (xs_cons (x3c (x_var 0 rfl)) (xs_cons (x3c (x_var 1 rfl)) xs_nil)))) ?_
  have ev : v_box_meet a b = Box.meet a b := rfl
  unfold Box.meet at ev
  unfold v_meet
  generalize Iv.meet a.a b.a = x at *
  generalize Iv.meet a.b b.b = y at *
  generalize Iv.meet a.c b.c = z at *
  refine sx_ifx (t_w (w_or (t_isNo (x_var 2 rfl)) fun _ => (w_or (t_isNo (x_var 3 rfl)) fun _ => (w_or1 (t_isNo (x_var 4 rfl)))))) (fun h => ?_) (fun h => ?_)
  · exact sx_last (sx_retNo x_non (by rcases x with _ | x <;> rcases y with _ | y <;> rcases z with _ | z <;> first | exact ev.symm | cases h))
  · rcases x with _ | x
    · cases h
    rcases y with _ | y
    · cases h
    rcases z with _ | z
    · cases h
    exact sx_last (sx_retS (x_t3 (xs_cons (x_some (x_var 2 rfl)) (xs_cons (x_some (x_var 3 rfl)) (xs_cons (x_some (x_var 4 rfl)) xs_nil)))) ev.symm)
theorem c_box_meet {X : Cx} {Γ : Gm} {o : Option Own} {e1 e2 : Expr} {p pos : Pos} {a : Box} {b : Box} (T : Tx X.w X.K X.mg) (hr : Room 2 X.A) (h : PAX X [e1, e2] Γ o [is X.K a, is X.K b]) (hg : Gl X "box_meet" := by rfl) (he : starEach [e1, e2] X.env = (false, eval e1 X.env) :: starEach [e2] X.env := by rfl) (hpl : (backTo pos (starEach [e2] X.env)).any (·.1) = false := by rfl) : PX X (.Call (.Name "box_meet" p) [e1, e2] [] pos) Γ o (is X.K (v_box_meet a b)) := x_callF (ok_box_meet T) hr (a, b) trivial h rfl hg (by decide) he hpl
theorem sc_box_inside : FnScope ["inner", "outer"] ["inner", "outer"] (defScope st_box_inside) := ⟨rfl, rfl, rfl, by decide +kernel, rfl, by decide +kernel, by decide +kernel⟩
abbrev v_box_inside (inner : Box) (outer : Box) : Bool := Box.inside inner outer
theorem ok_box_inside {P : Program} {w : World} {K : Fg} {mg : Str → Option Value} {base : Heap} (T : Tx w K mg) : Fok P w K mg base 2 "box_inside" ["inner", "outer"] (spF (fun a : Box × Box => True) (fun a : Box × Box => [is K a.1, is K a.2]) fun a => is K (v_box_inside a.1 a.2)) := by
  refine fokR T.fn_box_inside T.glo_box_inside (fun _ _ _ _ _ _ us hl => match us, hl with | [_, _], _ => rfl) sc_box_inside (fun _ => rfl) fun cdv A outer s H E hr a hp => ?_
  obtain ⟨inner, outer⟩ := a
  have nd := sc_box_inside.nd
  show SXs _ _ (as (G0 [is K inner, is K outer] _) none) _ _ _ (retV (is K (v_box_inside inner outer)))
  exact sx_last (sx_retD (x_and (c_inside T (hr.mono (by decide)) (xs_cons (x3a (x_var 0 rfl)) (xs_cons (x3a (x_var 1 rfl)) xs_nil))) fun _ => (x_and (c_inside T (hr.mono (by decide)) (xs_cons (x3b (x_var 0 rfl)) (xs_cons (x3b (x_var 1 rfl)) xs_nil))) fun _ => (x_one (c_inside T (hr.mono (by decide)) (xs_cons (x3c (x_var 0 rfl)) (xs_cons (x3c (x_var 1 rfl)) xs_nil)))))) rfl)
theorem c_box_inside {X : Cx} {Γ : Gm} {o : Option Own} {e1 e2 : Expr} {p pos : Pos} {inner : Box} {outer : Box} (T : Tx X.w X.K X.mg) (hr : Room 2 X.A) (h : PAX X [e1, e2] Γ o [is X.K inner, is X.K outer]) (hg : Gl X "box_inside" := by rfl) (he : starEach [e1, e2] X.env = (false, eval e1 X.env) :: starEach [e2] X.env := by rfl) (hpl : (backTo pos (starEach [e2] X.env)).any (·.1) = false := by rfl) : PX X (.Call (.Name "box_inside" p) [e1, e2] [] pos) Γ o (is X.K (v_box_inside inner outer)) := x_callF (ok_box_inside T) hr (inner, outer) trivial h rfl hg (by decide) he hpl
theorem sc_box_has : FnScope ["box", "point"] ["box", "point"] (defScope st_box_has) := ⟨rfl, rfl, rfl, by decide +kernel, rfl, by decide +kernel, by decide +kernel⟩
abbrev v_box_has (box : Box) (point : Pt) : Bool := Box.has box point
theorem ok_box_has {P : Program} {w : World} {K : Fg} {mg : Str → Option Value} {base : Heap} (T : Tx w K mg) : Fok P w K mg base 2 "box_has" ["box", "point"] (spF (fun a : Box × Pt => True) (fun a : Box × Pt => [is K a.1, is K a.2]) fun a => is K (v_box_has a.1 a.2)) := by
  refine fokR T.fn_box_has T.glo_box_has (fun _ _ _ _ _ _ us hl => match us, hl with | [_, _], _ => rfl) sc_box_has (fun _ => rfl) fun cdv A outer s H E hr a hp => ?_
  obtain ⟨box, point⟩ := a
  have nd := sc_box_has.nd
  show SXs _ _ (as (G0 [is K box, is K point] _) none) _ _ _ (retV (is K (v_box_has box point)))
  exact sx_last (sx_retD (x_and (c_has T (hr.mono (by decide)) (xs_cons (x3a (x_var 0 rfl)) (xs_cons (x3a (x_var 1 rfl)) xs_nil))) fun _ => (x_and (c_has T (hr.mono (by decide)) (xs_cons (x3b (x_var 0 rfl)) (xs_cons (x3b (x_var 1 rfl)) xs_nil))) fun _ => (x_one (c_has T (hr.mono (by decide)) (xs_cons (x3c (x_var 0 rfl)) (xs_cons (x3c (x_var 1 rfl)) xs_nil)))))) rfl)
theorem c_box_has {X : Cx} {Γ : Gm} {o : Option Own} {e1 e2 : Expr} {p pos : Pos} {box : Box} {point : Pt} (T : Tx X.w X.K X.mg) (hr : Room 2 X.A) (h : PAX X [e1, e2] Γ o [is X.K box, is X.K point]) (hg : Gl X "box_has" := by rfl) (he : starEach [e1, e2] X.env = (false, eval e1 X.env) :: starEach [e2] X.env := by rfl) (hpl : (backTo pos (starEach [e2] X.env)).any (·.1) = false := by rfl) : PX X (.Call (.Name "box_has" p) [e1, e2] [] pos) Γ o (is X.K (v_box_has box point)) := x_callF (ok_box_has T) hr (box, point) trivial h rfl hg (by decide) he hpl
end Or
set_option maxHeartbeats 400000
namespace Or
open PySem PySem.Spec PyProof.Rows L2 L3
local macro_rules | `(tactic| walk_at "gle") => `(tactic| (repeat (first | exact GLe.nil | refine GLe.keep ?_ | refine GLe.drop ?_)))
section
variable {X : Cx} {Γ : Gm} {o : Option Own} {pos : Pos}
theorem x_FACTORS (T : Tx X.w X.K X.mg) (hg : Gl X "FACTORS" := by rfl) : PX X (.Name "FACTORS" pos) Γ o (is X.K (T3.mk (1 : Int) (1 : Int) (3 : Int))) := by
  have m := T.more
  unfold moreB at m
  simp only [Bool.and_eq_true] at m
  obtain ⟨h, X0, G⟩ := T.ex
  exact x_globT (vs := [.int 1, .int 1, .int 3]) (PySem.W.mg_of X0 G (He.eqO_ok m.2.2.2.2.2.2.2.2.2.2.2.2.2.1)) (He.tupB_ok m.2.1 _) ⟨rfl, rfl, rfl, trivial⟩ hg
theorem x_NOTHING (T : Tx X.w X.K X.mg) (hg : Gl X "NOTHING" := by rfl) : PX X (.Name "NOTHING" pos) Γ o (is X.K nothing) := by
  have m := T.more
  unfold moreB at m
  simp only [Bool.and_eq_true] at m
  obtain ⟨h, X0, G⟩ := T.ex
  refine x_globT (vs := [.ref (zeroA X.K 0), .ref (zeroA X.K 1), .ref (zeroA X.K 2)]) (PySem.W.mg_of X0 G (He.eqO_ok m.2.2.2.2.2.2.2.2.2.2.2.2.1)) (tupA_ok m.2.2.1 _) ⟨?_, ?_, ?_, trivial⟩ hg
  · exact ⟨_, _, rfl, tupA_ok m.2.2.2.1 _, rfl, rfl, trivial⟩
  · exact ⟨_, _, rfl, tupA_ok m.2.2.2.2.1 _, rfl, rfl, trivial⟩
  · exact ⟨_, _, rfl, tupA_ok m.2.2.2.2.2.1 _, rfl, rfl, trivial⟩
end
theorem find_at {α : Type} {l : List α} {p : α → Bool} {k : Nat} {u : α} (hu : l[k]? = some u) (h : p u = true) (hk : ∀ j z, j < k → l[j]? = some z → p z = false) : l.find? p = some u := by
  induction l generalizing k with
  | nil => simp at hu
  | cons a l ih =>
    cases k with
    | zero =>
      have e : a = u := by simpa using hu
      subst e
      simp [List.find?, h]
    | succ k =>
      have e : p a = false := hk 0 a (Nat.succ_pos k) rfl
      simp only [List.find?, e]
      exact ih (by simpa using hu) fun j z hj hz => hk (j + 1) z (by omega) (by simpa using hz)
theorem find_no {α : Type} {l : List α} {p : α → Bool} (hk : ∀ (j : Nat) (z : α), l[j]? = some z → p z = false) : l.find? p = none := by
  rw [List.find?_eq_none]
  intro x hx
  obtain ⟨j, hj, e⟩ := List.mem_iff_getElem.mp hx
  rw [hk j x (by rw [List.getElem?_eq_getElem hj, e])]
  exact Bool.false_ne_true
theorem sc_square_length : FnScope ["box"] ["box"] (defScope st_square_length) := ⟨rfl, rfl, rfl, by decide +kernel, rfl, by decide +kernel, by decide +kernel⟩
abbrev v_square_length (box : Box) : Iv := Box.sqlen box
def p_square_length (box : Box) : Prop := BB 4000 box
theorem ok_square_length {P : Program} {w : World} {K : Fg} {mg : Str → Option Value} {base : Heap} (T : Tx w K mg) : Fok P w K mg base 2 "square_length" ["box"] (spF (fun a : Box => p_square_length a) (fun a : Box => [is K a]) fun a => is K (v_square_length a)) := by
  refine fokR T.fn_square_length T.glo_square_length (fun _ _ _ _ _ _ us hl => match us, hl with | [_], _ => rfl) sc_square_length (fun _ => rfl) fun cdv A outer s H E hr box hp => ?_
  have nd := sc_square_length.nd
  have hp : p_square_length box := hp
  show SXs _ _ (as (G0 [is K box] _) none) _ _ _ (retV (is K (v_square_length box)))
  exact sx_last (sx_retD (c_add T (hr.mono (by decide)) (xs_cons (c_add T (hr.mono (by decide)) (xs_cons (c_square T (hr.mono (by decide)) (xs_cons (x3a (x_var 0 rfl)) xs_nil) hp.1) (xs_cons (c_square T (hr.mono (by decide)) (xs_cons (x3b (x_var 0 rfl)) xs_nil) hp.2.1) xs_nil))) (xs_cons (c_square T (hr.mono (by decide)) (xs_cons (x3c (x_var 0 rfl)) xs_nil) hp.2.2) xs_nil))) rfl)
theorem c_square_length {X : Cx} {Γ : Gm} {o : Option Own} {e1 : Expr} {p pos : Pos} {box : Box} (T : Tx X.w X.K X.mg) (hr : Room 2 X.A) (h : PAX X [e1] Γ o [is X.K box]) (hp : p_square_length box) (hg : Gl X "square_length" := by rfl) (he : starEach [e1] X.env = (false, eval e1 X.env) :: starEach [] X.env := by rfl) (hpl : (backTo pos (starEach [] X.env)).any (·.1) = false := by rfl) : PX X (.Call (.Name "square_length" p) [e1] [] pos) Γ o (is X.K (v_square_length box)) := x_callF (ok_square_length T) hr (box) hp h rfl hg (by decide) he hpl
theorem sc_box_size : FnScope ["box"] ["box"] (defScope st_box_size) := ⟨rfl, rfl, rfl, by decide +kernel, rfl, by decide +kernel, by decide +kernel⟩
abbrev v_box_size (box : Box) : Int := Box.size box
theorem ok_box_size {P : Program} {w : World} {K : Fg} {mg : Str → Option Value} {base : Heap} (T : Tx w K mg) : Fok P w K mg base 2 "box_size" ["box"] (spF (fun a : Box => True) (fun a : Box => [is K a]) fun a => is K (v_box_size a)) := by
  refine fokR T.fn_box_size T.glo_box_size (fun _ _ _ _ _ _ us hl => match us, hl with | [_], _ => rfl) sc_box_size (fun _ => rfl) fun cdv A outer s H E hr box hp => ?_
  have nd := sc_box_size.nd
  show SXs _ _ (as (G0 [is K box] _) none) _ _ _ (retV (is K (v_box_size box)))
  exact sx_last (sx_retD (x_max3 T.free_max (xs_cons (c_size T (hr.mono (by decide)) (xs_cons (x3a (x_var 0 rfl)) xs_nil)) (xs_cons (c_size T (hr.mono (by decide)) (xs_cons (x3b (x_var 0 rfl)) xs_nil)) (xs_cons (c_size T (hr.mono (by decide)) (xs_cons (x3c (x_var 0 rfl)) xs_nil)) xs_nil)))) rfl)
theorem c_box_size {X : Cx} {Γ : Gm} {o : Option Own} {e1 : Expr} {p pos : Pos} {box : Box} (T : Tx X.w X.K X.mg) (hr : Room 2 X.A) (h : PAX X [e1] Γ o [is X.K box]) (hg : Gl X "box_size" := by rfl) (he : starEach [e1] X.env = (false, eval e1 X.env) :: starEach [] X.env := by rfl) (hpl : (backTo pos (starEach [] X.env)).any (·.1) = false := by rfl) : PX X (.Call (.Name "box_size" p) [e1] [] pos) Γ o (is X.K (v_box_size box)) := x_callF (ok_box_size T) hr (box) trivial h rfl hg (by decide) he hpl
theorem sc_push_at : FnScope ["craft", "at", "burn"] ["craft", "at"] (defScope st_push_at) := ⟨rfl, rfl, rfl, by decide +kernel, rfl, by decide +kernel, by decide +kernel⟩
abbrev v_push_at (craft : Craft) (at_ : Int) : Box := pushAt craft at_
theorem ok_push_at {P : Program} {w : World} {K : Fg} {mg : Str → Option Value} {base : Heap} (T : Tx w K mg) : Fok P w K mg base 1 "push_at" ["craft", "at"] (spF (fun a : Craft × Int => True) (fun a : Craft × Int => [is K a.1, is K a.2]) fun a => is K (v_push_at a.1 a.2)) := by
  refine fokR T.fn_push_at T.glo_push_at (fun _ _ _ _ _ _ us hl => match us, hl with | [_, _], _ => rfl) sc_push_at (fun _ => rfl) fun cdv A outer s H E hr a hp => ?_
  obtain ⟨craft, at_⟩ := a
  have nd := sc_push_at.nd
  show SXs _ _ (as (G0 [is K craft, is K at_] _) none) _ _ _ (retV (is K (v_push_at craft at_)))
  refine sx_forS 2 nd craft.burns.l (fun k => ∀ j u, j < k → craft.burns.l[j]? = some u → actB at_ u = false) (i_T (f_Craft_burns T (x_var 0 rfl))) (fun j u h => absurd h (Nat.not_lt_zero j)) (fun k u hu hk => ?_) (fun hk => ?_)
  · refine sx_ifx (t_chain op_le op_lt (f_Burn_begin T (x_var 2 rfl)) (x_var 1 rfl) (f_Burn_end T (x_var 2 rfl))) (fun h => ?_) (fun h => ?_)
    · exact sx_last (sx_retD (f_Burn_push T (x_var 2 rfl)) (by unfold v_push_at pushAt; rw [find_at hu h fun j z hj hz => hk j z hj hz]))
    · exact sx_endS1 (fun j z hj hz => by
        by_cases q : j = k
        · subst q
          rw [hu] at hz
          cases hz
          exact h
        · exact hk j z (by omega) hz) rfl
  · exact sx_last (sx_retD (x_NOTHING T) (by unfold v_push_at pushAt; rw [find_no fun j z hz => hk j z (List.getElem?_eq_some_iff.mp hz).1 hz]))
theorem c_push_at {X : Cx} {Γ : Gm} {o : Option Own} {e1 e2 : Expr} {p pos : Pos} {craft : Craft} {at_ : Int} (T : Tx X.w X.K X.mg) (hr : Room 1 X.A) (h : PAX X [e1, e2] Γ o [is X.K craft, is X.K at_]) (hg : Gl X "push_at" := by rfl) (he : starEach [e1, e2] X.env = (false, eval e1 X.env) :: starEach [e2] X.env := by rfl) (hpl : (backTo pos (starEach [e2] X.env)).any (·.1) = false := by rfl) : PX X (.Call (.Name "push_at" p) [e1, e2] [] pos) Γ o (is X.K (v_push_at craft at_)) := x_callF (ok_push_at T) hr (craft, at_) trivial h rfl hg (by decide) he hpl
theorem sc_State_init : FnScope ["self", "place", "speed"] ["self", "place", "speed"] (defScope st_State_init) := ⟨rfl, rfl, rfl, by decide +kernel, rfl, by decide +kernel, by decide +kernel⟩
abbrev v_State (place : Box) (speed : Box) : State := ⟨place, speed⟩
theorem ok_State {P : Program} {w : World} {K : Fg} {mg : Str → Option Value} {base : Heap} (T : Tx w K mg) : Cok P w K mg base 1 "State" ["self", "place", "speed"] [] (spM (He.ga K "State") (fun a : Box × Box => True) (fun a => [is K a.1, is K a.2]) (fun _ => []) (fun a => fState K (v_State a.1 a.2)) fun _ => eqv .non) := by
  refine cokR (C := "State") T.fn_State_init T.glo_State T.mkr_State (fun _ _ _ _ _ _ us hl => match us, hl with | [_, _, _], _ => rfl) sc_State_init (fun _ => rfl) (by decide) fun cdv A outer s H E hr y a hp => ?_
  obtain ⟨place, speed⟩ := a
  have nd := sc_State_init.nd
  show SXs _ _ (as ((G0 (anyV :: [is K place, is K speed]) _).set 0 none) (some (ownI y (He.ga K "State") 0 []))) (exA _ fun Γ => as Γ (some (ownI y (He.ga K "State") 0 (fState K (v_State place speed))))) _ _ _
  refine sx_cons (sx_fldN T.cls_State T.noat_State_place (show ("place" : Str) ∉ ([] : List Str) by decide +kernel) (x_var 1 rfl)) ?_
  refine sx_cons (sx_fldN T.cls_State T.noat_State_speed (show ("speed" : Str) ∉ (["place"] : List Str) by decide +kernel) (x_var 2 rfl)) ?_
  exact sx_end (exA_in _ trivial (as_own (by rfl)))
theorem c_State {X : Cx} {Γ : Gm} {o : Option Own} {e1 e2 : Expr} {p pos : Pos} {place : Box} {speed : Box} (T : Tx X.w X.K X.mg) (hr : Room 2 X.A) (h : PAX X [e1, e2] Γ o [is X.K place, is X.K speed]) (hg : Gl X "State" := by rfl) (he : starEach [e1, e2] X.env = (false, eval e1 X.env) :: starEach [e2] X.env := by rfl) (hpl : (backTo pos (starEach [e2] X.env)).any (·.1) = false := by rfl) : PX X (.Call (.Name "State" p) [e1, e2] [] pos) Γ o (is X.K (v_State place speed)) := x_makeC (Ds := []) (ok_State T) hr trivial (place, speed) trivial h rfl hg (by decide) he hpl
end Or
set_option maxHeartbeats 400000
namespace Or
open PySem PySem.Spec PyProof.Rows L2 L3
local macro_rules | `(tactic| walk_at "gle") => `(tactic| (repeat (first | exact GLe.nil | refine GLe.keep ?_ | refine GLe.drop ?_)))
theorem sc_pull_over : FnScope ["body", "box", "s", "d", "e", "height", "pulls", "k", "main", "bulge", "more"] ["body", "box"] (defScope st_pull_over) := ⟨rfl, rfl, rfl, by decide +kernel, rfl, by decide +kernel, by decide +kernel⟩
abbrev v_pull_over (body_ : Body) (box : Box) : Option (Box) := pullOver body_ box
def p_pull_over (body_ : Body) (box : Box) : Prop := BV box ∧ BB 140 box ∧ Sm 100 body_.mu ∧ Sm 100 body_.obl
theorem ok_pull_over {P : Program} {w : World} {K : Fg} {mg : Str → Option Value} {base : Heap} (T : Tx w K mg) : Fok P w K mg base 3 "pull_over" ["body", "box"] (spF (fun a : Body × Box => p_pull_over a.1 a.2) (fun a : Body × Box => [is K a.1, is K a.2]) fun a => is K (v_pull_over a.1 a.2)) := by
  refine fokR T.fn_pull_over T.glo_pull_over (fun _ _ _ _ _ _ us hl => match us, hl with | [_, _], _ => rfl) sc_pull_over (fun _ => rfl) fun cdv A outer s H E hr a hp => ?_
  obtain ⟨body_, box⟩ := a
  have nd := sc_pull_over.nd
  have hp : p_pull_over body_ box := hp
  show SXs _ _ (as (G0 [is K body_, is K box] _) none) _ _ _ (retV (is K (v_pull_over body_ box)))
  obtain ⟨hv, hb, hm, ho⟩ := hp
  have bs : BI 282 (Box.sqlen box) := hb.sqlen
  refine sx_cons (sx_set 2 nd (c_square_length T (hr.mono (by decide)) (xs_cons (x_var 1 rfl) xs_nil) (hb.mono (by decide)))) ?_
  refine sx_ifx (t_eq (x2a (x_var 2 rfl)) x_int) (fun h => ?_) (fun h => ?_)
  · exact sx_last (sx_retNo x_non (by unfold v_pull_over pullOver; rw [if_pos (of_decide_eq_true h)]))
  have ps := sqlen_pos hv (of_decide_eq_false h)
  have pr := root_pos ps
  have br : BI 282 (Iv.root (Box.sqlen box)) := bs.root (by omega) (by omega)
  have pd := mul_pos' ps pr
  have bd : BI 564 (Iv.mul (Box.sqlen box) (Iv.root (Box.sqlen box))) := bs.mul br
  have pe := mul_pos' (mul_pos' ps ps) pd
  have be : BI 1128 (Iv.mul (Iv.mul (Box.sqlen box) (Box.sqlen box)) (Iv.mul (Box.sqlen box) (Iv.root (Box.sqlen box)))) := (bs.mul bs).mul bd
  have bh : BI 290 (Iv.scaled (Iv.square box.c) 5) := hb.2.2.square.scaled five_sm
  refine sx_cons (sx_set 3 nd (c_multiply T (hr.mono (by decide)) (xs_cons (x_var 2 rfl) (xs_cons (c_root T (hr.mono (by decide)) (xs_cons (x_var 2 rfl) xs_nil) ⟨(show 0 ≤ (Box.sqlen box).b by omega), bs.p8⟩) xs_nil)) ⟨bs.p.1, bs.p.2, br.p⟩)) ?_
  refine sx_cons (sx_set 4 nd (c_multiply T (hr.mono (by decide)) (xs_cons (c_multiply T (hr.mono (by decide)) (xs_cons (x_var 2 rfl) (xs_cons (x_var 2 rfl) xs_nil)) ⟨bs.p.1, bs.p.2, bs.p⟩) (xs_cons (x_var 3 rfl) xs_nil)) ⟨(bs.mul bs).p.1, (bs.mul bs).p.2, bd.p⟩)) ?_
  refine sx_cons (sx_set 5 nd (c_scaled T (hr.mono (by decide)) (xs_cons (c_square T (hr.mono (by decide)) (xs_cons (x3c (x_var 1 rfl)) xs_nil) hb.2.2.p) (xs_cons x_int xs_nil)) ⟨hb.2.2.square.p.1, hb.2.2.square.p.2, five_sm.mono (by decide)⟩)) ?_
  refine sx_cons (sx_new (α := Iv) 6 nd) ?_
  refine sx_forU (ι := Unit) (rngL 0 3) (fun _ _ => []) (fun k _ => some (ownL _ 6 ((List.range k).map (pullIv body_ box)))) (fun _ _ => True) () (i_rng1 T.free_range (xs_cons x_int xs_nil) (by decide)) trivial (GLe.refl _) rfl (fun k _ a ha _ => ?_) (fun _ _ => ?_)
  · obtain ⟨hk, rfl⟩ := rngL_get ha
    refine ⟨_, [7], g_name 7 nd, own_ninL (by decide), ?_⟩
    have bk := hb.at_ hk
    have b1 := bk.scaled hm.neg
    have bf := (bs.scaled (fac_sm hk))
    have b2 := (bh.mono (show 290 ≤ 282 + 10 by decide)).sub bf
    have b3 := bk.mul b2
    have b4 := b3.scaled ho
    refine sx_cons (sx_set 8 nd (c_quotient T (hr.mono (by decide)) (xs_cons (c_scaled T (hr.mono (by decide)) (xs_cons (x3v (x_var 1 rfl) (x_var 7 rfl) (by omega) (box_at box hk)) (xs_cons (x_neg (f_Body_mu T (x_var 0 rfl))) xs_nil)) ⟨bk.p.1, bk.p.2, hm.neg.mono (by decide)⟩) (xs_cons (x_var 3 rfl) xs_nil)) ⟨pd.1, pd.2, bd.p8⟩)) ?_
    refine sx_cons (sx_set 9 nd (c_multiply T (hr.mono (by decide)) (xs_cons (x3v (x_var 1 rfl) (x_var 7 rfl) (by omega) (box_at box hk)) (xs_cons (c_subtract T (hr.mono (by decide)) (xs_cons (x_var 5 rfl) (xs_cons (c_scaled T (hr.mono (by decide)) (xs_cons (x_var 2 rfl) (xs_cons (x3v (x_FACTORS T) (x_var 7 rfl) (by omega) (fac_at hk)) xs_nil)) ⟨bs.p.1, bs.p.2, (fac_sm hk).mono (by decide)⟩) xs_nil))) xs_nil)) ⟨bk.p.1, bk.p.2, b2.p⟩)) ?_
    refine sx_cons (sx_set 10 nd (c_quotient T (hr.mono (by decide)) (xs_cons (c_scaled T (hr.mono (by decide)) (xs_cons (x_var 9 rfl) (xs_cons (f_Body_oblateness T (x_var 0 rfl)) xs_nil)) ⟨b3.p.1, b3.p.2, ho.mono (by decide)⟩) (xs_cons (x_var 4 rfl) xs_nil)) ⟨pe.1, pe.2, be.p8⟩)) ?_
    refine sx_cons (sx_append (c_add T (hr.mono (by decide)) (xs_cons (x_var 8 rfl) (xs_cons (x_var 10 rfl) xs_nil))) (by rw [List.length_map, List.length_range]; omega)) ?_
    refine sx_endU () trivial ?_ ?_
    · walk_at "gle"
    · rw [List.range_succ, List.map_append]
      rfl
  · exact sx_last (sx_retS (x_t3 (xs_cons (x_oix x_int rfl rfl) (xs_cons (x_oix x_int rfl rfl) (xs_cons (x_oix x_int rfl rfl) xs_nil)))) (by unfold v_pull_over pullOver; rw [if_neg (of_decide_eq_false h)]))
theorem c_pull_over {X : Cx} {Γ : Gm} {o : Option Own} {e1 e2 : Expr} {p pos : Pos} {body_ : Body} {box : Box} (T : Tx X.w X.K X.mg) (hr : Room 3 X.A) (h : PAX X [e1, e2] Γ o [is X.K body_, is X.K box]) (hp : p_pull_over body_ box) (hg : Gl X "pull_over" := by rfl) (he : starEach [e1, e2] X.env = (false, eval e1 X.env) :: starEach [e2] X.env := by rfl) (hpl : (backTo pos (starEach [e2] X.env)).any (·.1) = false := by rfl) : PX X (.Call (.Name "pull_over" p) [e1, e2] [] pos) Γ o (is X.K (v_pull_over body_ box)) := x_callF (ok_pull_over T) hr (body_, box) hp h rfl hg (by decide) he hpl
end Or
set_option maxHeartbeats 400000
namespace Or
open PySem PySem.Spec PyProof.Rows L2 L3
local macro_rules | `(tactic| walk_at "gle") => `(tactic| (repeat (first | exact GLe.nil | refine GLe.keep ?_ | refine GLe.drop ?_)))
theorem rng_mem {lo : Int} {n : Nat} {a : Int} (h : a ∈ rngL lo n) : ∃ i : Nat, i < n ∧ a = lo + (i : Int) := by
  obtain ⟨i, hi, e⟩ := List.mem_iff_getElem.mp h
  obtain ⟨h1, h2⟩ := rngL_get (a := a) (k := i) (by rw [List.getElem?_eq_getElem hi, e])
  exact ⟨i, h1, h2⟩
theorem put_eq (box : Box) (k : Int) (i : Iv) : ((rngL 0 3).filter fun _ => true).map (fun j : Int => if decide (j = k) = true then i else Box.at_ box j.toNat) = [(Box.put box k i).a, (Box.put box k i).b, (Box.put box k i).c] := by
  show [if decide ((0 : Int) + ((0 : Nat) : Int) = k) = true then i else box.a, if decide ((0 : Int) + ((1 : Nat) : Int) = k) = true then i else box.b, if decide ((0 : Int) + ((2 : Nat) : Int) = k) = true then i else box.c] = _
  simp only [decide_eq_true_eq]
  rfl
theorem sc_put : FnScope ["box", "k", "interval", "j"] ["box", "k", "interval"] (defScope st_put) := ⟨rfl, rfl, rfl, by decide +kernel, rfl, by decide +kernel, by decide +kernel⟩
abbrev v_put (box : Box) (k : Int) (interval : Iv) : Box := Box.put box k interval
theorem ok_put {P : Program} {w : World} {K : Fg} {mg : Str → Option Value} {base : Heap} (T : Tx w K mg) : Fok P w K mg base 1 "put" ["box", "k", "interval"] (spF (fun a : Box × Int × Iv => True) (fun a : Box × Int × Iv => [is K a.1, is K a.2.1, is K a.2.2]) fun a => is K (v_put a.1 a.2.1 a.2.2)) := by
  refine fokR T.fn_put T.glo_put (fun _ _ _ _ _ _ us hl => match us, hl with | [_, _, _], _ => rfl) sc_put (fun _ => rfl) fun cdv A outer s H E hr a hp => ?_
  obtain ⟨box, k, interval⟩ := a
  have nd := sc_put.nd
  show SXs _ _ (as (G0 [is K box, is K k, is K interval] _) none) _ _ _ (retV (is K (v_put box k interval)))
  refine sx_last (sx_retD (x := Box.put box k interval) (PX.eq (x_tupL T.free_tuple (xs_cons (x_lc (xs := rngL 0 3) [("j", 3)] (fun _ => true) (fun j : Int => if decide (j = k) = true then interval else Box.at_ box j.toNat) nd (i_rng1 T.free_range (xs_cons x_int xs_nil) (by decide)) (by decide) no_own (blkOk_by (own := [("j", 3)]) (N := ["box", "k", "interval", "j"]) (sc := defScope st_put) (by decide +kernel)) (fun a ha => ?_)) xs_nil)) ?_) rfl)
  · obtain ⟨i, hi, rfl⟩ := rng_mem ha
    refine ⟨_, [3], by decide, fun s H C cl fp => ⟨g_name 3 nd, ts_nil, fun _ => ?_⟩⟩
    exact x_if (t_eq (x_var 3 rfl) (x_var 1 rfl)) (fun _ => x_var 2 rfl) (fun _ => x3v (i := i) (x_var 0 rfl) (x_var 3 rfl) (by omega) (by
      have e : ((0 : Int) + (i : Int)).toNat = i := by omega
      rw [e]
      exact box_at box hi))
  · rw [put_eq]
    rfl
theorem c_put {X : Cx} {Γ : Gm} {o : Option Own} {e1 e2 e3 : Expr} {p pos : Pos} {box : Box} {k : Int} {interval : Iv} (T : Tx X.w X.K X.mg) (hr : Room 1 X.A) (h : PAX X [e1, e2, e3] Γ o [is X.K box, is X.K k, is X.K interval]) (hg : Gl X "put" := by rfl) (he : starEach [e1, e2, e3] X.env = (false, eval e1 X.env) :: starEach [e2, e3] X.env := by rfl) (hpl : (backTo pos (starEach [e2, e3] X.env)).any (·.1) = false := by rfl) : PX X (.Call (.Name "put" p) [e1, e2, e3] [] pos) Γ o (is X.K (v_put box k interval)) := x_callF (ok_put T) hr (box, k, interval) trivial h rfl hg (by decide) he hpl
theorem ivs_len (s : State) : s.ivs.length = 6 := rfl
theorem widest_lt (l : List Iv) : ∀ k, widest l k ≤ k
  | 0 => Nat.le_refl _
  | k + 1 => by
    unfold widest
    have := widest_lt l k
    split <;> omega
theorem ivs_at (s : State) {k : Nat} (h : k < 6) : s.ivs[k]? = some (s.ivs.getD k ⟨0, 0⟩) := by
  rw [List.getD_eq_getElem?_getD, List.getElem?_eq_getElem (by rw [ivs_len]; exact h)]
  rfl
theorem sc_split : FnScope ["state", "intervals", "widest", "k", "low", "high", "m", "halves", "half"] ["state"] (defScope st_split) := ⟨rfl, rfl, rfl, by decide +kernel, rfl, by decide +kernel, by decide +kernel⟩
abbrev v_split (state : State) : List (State) := split state
theorem ok_split {P : Program} {w : World} {K : Fg} {mg : Str → Option Value} {base : Heap} (T : Tx w K mg) : Fok P w K mg base 3 "split" ["state"] (spF (fun a : State => True) (fun a : State => [is K a]) fun a => is K (v_split a)) := by
  refine fokR T.fn_split T.glo_split (fun _ _ _ _ _ _ us hl => match us, hl with | [_], _ => rfl) sc_split (fun _ => rfl) fun cdv A outer s H E hr state hp => ?_
  have nd := sc_split.nd
  show SXs _ _ (as (G0 [is K state] _) none) _ _ _ (retV (is K (v_split state)))
  have hat : ∀ k : Nat, k < 6 → ixN state.ivs.length (k : Int) = some k := fun k hk => ixN_nat (by rw [ivs_len]; exact hk)
  refine sx_cons (sx_set (P := is _ state.ivs) 1 nd (PX.eq (x_cat (x_lstT T.free_list (xs_cons (f_State_place T (x_var 0 rfl)) xs_nil)) (x_lstT T.free_list (xs_cons (f_State_speed T (x_var 0 rfl)) xs_nil)) (Nat.le_of_ble_eq_true rfl)) rfl)) ?_
  refine sx_cons (sx_set 2 nd x_int) ?_
  refine sx_forU (ι := Unit) (rngL 1 5) (fun k _ => [(2, some (is _ ((widest state.ivs k : Nat) : Int)))]) (fun _ _ => none) (fun _ _ => True) () (i_rng2 T.free_range (xs_cons x_int (xs_cons x_int xs_nil)) (by decide)) trivial (by walk_at "gle") rfl (fun k _ a ha _ => ?_) (fun _ _ => ?_)
  · obtain ⟨hk, rfl⟩ := rngL_get ha
    refine ⟨_, [3], g_name 3 nd, no_own, ?_⟩
    have hw := widest_lt state.ivs k
    have e1 : (1 : Int) + (k : Int) = ((k + 1 : Nat) : Int) := by omega
    rw [e1]
    refine sx_last (sx_if (t_gt (c_width T (hr.mono (by decide)) (xs_cons (xLv (x_var 1 rfl) (x_var 3 rfl) (hat (k + 1) (by omega)) (ivs_at state (by omega))) xs_nil)) (c_width T (hr.mono (by decide)) (xs_cons (xLv (x_var 1 rfl) (x_var 2 rfl) (hat _ (by omega)) (ivs_at state (by omega))) xs_nil))) (fun h => ?_) (fun h => ?_))
    · have ew : widest state.ivs (k + 1) = k + 1 := by
        show (if wd state.ivs (widest state.ivs k) < wd state.ivs (k + 1) then k + 1 else widest state.ivs k) = k + 1
        exact if_pos (of_decide_eq_true h)
      refine sx_cons (sx_set 2 nd (x_var 3 rfl)) (sx_endU () trivial ?_ rfl)
      rw [ew]
      walk_at "gle"
    · have ew : widest state.ivs (k + 1) = widest state.ivs k := by
        show (if wd state.ivs (widest state.ivs k) < wd state.ivs (k + 1) then k + 1 else widest state.ivs k) = _
        exact if_neg (of_decide_eq_false h)
      refine sx_endU () trivial ?_ rfl
      rw [ew]
      walk_at "gle"
  · have hw := widest_lt state.ivs 5
    have hl : (rngL 1 5).length = 5 := rfl
    rw [hl]
    have ev : v_split state = split state := rfl
    unfold split at ev
    generalize widest state.ivs 5 = q at hw ev ⊢
    have hi := ivs_at state (k := q) (by omega)
    dsimp only at ev
    generalize state.ivs.getD q ⟨0, 0⟩ = iv at hi ev ⊢
    refine sx_cons (sx_asg (xLv (x_var 1 rfl) (x_var 2 rfl) (hat q (by omega)) hi) (g_tup rfl (gs_cons (g_name 4 nd) (gs_cons (g_name 5 nd) gs_nil)) rfl) no_own) ?_
    refine sx_ifx (t_eq (x_var 4 rfl) (x_var 5 rfl)) (fun h => ?_) (fun h => ?_)
    · rw [if_pos (of_decide_eq_true h)] at ev
      exact sx_last (sx_retD (x := [state]) (PX.eq (x_lst (xs_cons (c_State T (hr.mono (by decide)) (xs_cons (f_State_place T (x_var 0 rfl)) (xs_cons (f_State_speed T (x_var 0 rfl)) xs_nil))) xs_nil)) rfl) ev.symm)
    · rw [if_neg (of_decide_eq_false h)] at ev
      refine sx_cons (sx_set 6 nd (c_middle T (hr.mono (by decide)) (xs_cons (xLv (x_var 1 rfl) (x_var 2 rfl) (hat q (by omega)) hi) xs_nil))) ?_
      refine sx_cons (sx_new (α := State) 7 nd) ?_
      refine sx_forU (ι := Unit) ([⟨iv.a, Iv.middle iv⟩, ⟨Iv.middle iv + 1, iv.b⟩] : List Iv) (fun _ _ => []) (fun k _ => some (ownL _ 7 ((([⟨iv.a, Iv.middle iv⟩, ⟨Iv.middle iv + 1, iv.b⟩] : List Iv).take k).map (half state q)))) (fun _ _ => True) () (i_lst (PX.eq (x_lst (xs_cons (x_t2 (xs_cons (x_var 4 rfl) (xs_cons (x_var 6 rfl) xs_nil))) (xs_cons (x_t2 (xs_cons (x_add (x_var 6 rfl) x_int) (xs_cons (x_var 5 rfl) xs_nil))) xs_nil))) rfl)) trivial (GLe.refl _) rfl (fun k _ a ha _ => ?_) (fun _ _ => ?_)
      · refine ⟨_, [8], g_name 8 nd, own_ninL (by decide), ?_⟩
        have hk : k < 2 := by
          have := (List.getElem?_eq_some_iff.mp ha).1
          exact this
        have et : (([⟨iv.a, Iv.middle iv⟩, ⟨Iv.middle iv + 1, iv.b⟩] : List Iv).take (k + 1)).map (half state q) = (([⟨iv.a, Iv.middle iv⟩, ⟨Iv.middle iv + 1, iv.b⟩] : List Iv).take k).map (half state q) ++ [half state q a] := by
          rw [List.take_succ, ha, List.map_append]
          rfl
        have ez : ((([⟨iv.a, Iv.middle iv⟩, ⟨Iv.middle iv + 1, iv.b⟩] : List Iv).take k).map (half state q)).length ≤ 1000 := by
          rw [List.length_map, List.length_take]
          omega
        refine sx_last (sx_if (t_lt (x_var 2 rfl) x_int) (fun h => ?_) (fun h => ?_))
        · have eh : half state q a = ⟨state.place.put q a, state.speed⟩ := if_pos (of_decide_eq_true h)
          rw [eh] at et
          refine sx_cons (sx_append (c_State T (hr.mono (by decide)) (xs_cons (c_put T (hr.mono (by decide)) (xs_cons (f_State_place T (x_var 0 rfl)) (xs_cons (x_var 2 rfl) (xs_cons (x_var 8 rfl) xs_nil)))) (xs_cons (f_State_speed T (x_var 0 rfl)) xs_nil))) ez) (sx_endU () trivial ?_ ?_)
          · walk_at "gle"
          · rw [et]
        · have eh : half state q a = ⟨state.place, state.speed.put ((q : Int) - 3) a⟩ := if_neg (of_decide_eq_false h)
          rw [eh] at et
          refine sx_cons (sx_append (c_State T (hr.mono (by decide)) (xs_cons (f_State_place T (x_var 0 rfl)) (xs_cons (c_put T (hr.mono (by decide)) (xs_cons (f_State_speed T (x_var 0 rfl)) (xs_cons (x_sub (x_var 2 rfl) x_int) (xs_cons (x_var 8 rfl) xs_nil)))) xs_nil))) ez) (sx_endU () trivial ?_ ?_)
          · walk_at "gle"
          · rw [et]
      · refine sx_freeze ?_
        exact sx_last (sx_retD (x_var 7 rfl) ev.symm)
theorem c_split {X : Cx} {Γ : Gm} {o : Option Own} {e1 : Expr} {p pos : Pos} {state : State} (T : Tx X.w X.K X.mg) (hr : Room 3 X.A) (h : PAX X [e1] Γ o [is X.K state]) (hg : Gl X "split" := by rfl) (he : starEach [e1] X.env = (false, eval e1 X.env) :: starEach [] X.env := by rfl) (hpl : (backTo pos (starEach [] X.env)).any (·.1) = false := by rfl) : PX X (.Call (.Name "split" p) [e1] [] pos) Γ o (is X.K (v_split state)) := x_callF (ok_split T) hr (state) trivial h rfl hg (by decide) he hpl
end Or
set_option maxHeartbeats 400000
namespace Or
open PySem PySem.Spec PyProof.Rows L2 L3
local macro_rules | `(tactic| walk_at "gle") => `(tactic| (repeat (first | exact GLe.nil | refine GLe.keep ?_ | refine GLe.drop ?_)))
theorem cat_is {α : Type} [Rep α] {K : Fg} {xs ys : List α} : lstOf (xs.map (is K) ++ ys.map (is K)) = is K (xs ++ ys) := by
  rw [← List.map_append]
  rfl
theorem split_len (s : State) : (split s).length ≤ 2 := by
  unfold split
  dsimp only
  split <;> simp
theorem flat_len {l : List State} : (l.flatMap split).length ≤ 2 * l.length := by
  induction l with
  | nil => exact Nat.le_refl _
  | cons a l ih =>
    rw [List.flatMap_cons, List.length_append, List.length_cons]
    have := split_len a
    omega
theorem parts_len (s : State) : ∀ n, (partsOf s n).length ≤ 2 ^ n
  | 0 => Nat.le_refl _
  | n + 1 => by
    have h1 := parts_len s n
    have h2 := flat_len (l := partsOf s n)
    show ((partsOf s n).flatMap split).length ≤ 2 ^ (n + 1)
    rw [Nat.pow_succ]
    omega
theorem parts_len6 (s : State) {n : Nat} (h : n ≤ 6) : (partsOf s n).length ≤ 64 := Nat.le_trans (parts_len s n) (Nat.pow_le_pow_right (by decide) h)
theorem sc_parts_of : FnScope ["state", "fineness", "parts", "turn", "finer", "part"] ["state", "fineness"] (defScope st_parts_of) := ⟨rfl, rfl, rfl, by decide +kernel, rfl, by decide +kernel, by decide +kernel⟩
abbrev v_parts_of (state : State) (fineness : Int) : List (State) := partsOf state fineness.toNat
def p_parts_of (state : State) (fineness : Int) : Prop := 0 ≤ fineness ∧ fineness ≤ 6
theorem ok_parts_of {P : Program} {w : World} {K : Fg} {mg : Str → Option Value} {base : Heap} (T : Tx w K mg) : Fok P w K mg base 4 "parts_of" ["state", "fineness"] (spF (fun a : State × Int => p_parts_of a.1 a.2) (fun a : State × Int => [is K a.1, is K a.2]) fun a => is K (v_parts_of a.1 a.2)) := by
  refine fokR T.fn_parts_of T.glo_parts_of (fun _ _ _ _ _ _ us hl => match us, hl with | [_, _], _ => rfl) sc_parts_of (fun _ => rfl) fun cdv A outer s H E hr a hp => ?_
  obtain ⟨state, fineness⟩ := a
  have nd := sc_parts_of.nd
  have hp : p_parts_of state fineness := hp
  show SXs _ _ (as (G0 [is K state, is K fineness] _) none) _ _ _ (retV (is K (v_parts_of state fineness)))
  obtain ⟨h0, h6⟩ := hp
  refine sx_cons (sx_set (P := is _ (partsOf state 0)) 2 nd (PX.eq (x_lst (xs_cons (c_State T (hr.mono (by decide)) (xs_cons (f_State_place T (x_var 0 rfl)) (xs_cons (f_State_speed T (x_var 0 rfl)) xs_nil))) xs_nil)) rfl)) ?_
  refine sx_forU (ι := Unit) (rngL 0 fineness.toNat) (fun k _ => [(2, some (is _ (partsOf state k)))]) (fun _ _ => none) (fun _ _ => True) () (i_rng1 T.free_range (xs_cons (x_var 1 rfl) xs_nil) (by omega)) trivial (by walk_at "gle") rfl (fun k _ a ha _ => ?_) (fun _ _ => ?_)
  · obtain ⟨hk, rfl⟩ := rngL_get ha
    have hl := parts_len6 state (n := k) (by omega)
    refine ⟨_, [3], g_name 3 nd, no_own, ?_⟩
    refine sx_cons (sx_set (P := is K ([] : List State)) 4 nd (PX.eq (x_lst xs_nil) rfl)) ?_
    refine sx_forU (ι := Unit) (partsOf state k) (fun j _ => [(4, some (is _ (((partsOf state k).take j).flatMap split)))]) (fun _ _ => none) (fun _ _ => True) () (i_L (x_var 2 rfl)) trivial (by walk_at "gle") rfl (fun j _ a ha _ => ?_) (fun _ _ => ?_)
    · refine ⟨_, [5], g_name 5 nd, no_own, ?_⟩
      have h2 := flat_len (l := (partsOf state k).take j)
      have h3 : (v_split a).length ≤ 2 := split_len a
      rw [List.length_take] at h2
      refine sx_cons (sx_set (P := is _ (((partsOf state k).take (j + 1)).flatMap split)) 4 nd (PX.eq (x_cat (x_var 4 rfl) (c_split T (hr.mono (by decide)) (xs_cons (x_var 5 rfl) xs_nil)) (by rw [List.length_map, List.length_map]; omega)) ?_)) (sx_endU () trivial (by walk_at "gle") rfl)
      exact Eq.trans (cat_is (K := K) (xs := ((partsOf state k).take j).flatMap split) (ys := split a)) (congrArg (is K) (by rw [List.take_succ, ha, List.flatMap_append]; simp))
    · rw [List.take_length]
      refine sx_cons (sx_set 2 nd (x_var 4 rfl)) (sx_endU () trivial (by walk_at "gle") rfl)
  · rw [rngL_len]
    exact sx_last (sx_retD (x_var 2 rfl) rfl)
theorem c_parts_of {X : Cx} {Γ : Gm} {o : Option Own} {e1 e2 : Expr} {p pos : Pos} {state : State} {fineness : Int} (T : Tx X.w X.K X.mg) (hr : Room 4 X.A) (h : PAX X [e1, e2] Γ o [is X.K state, is X.K fineness]) (hp : p_parts_of state fineness) (hg : Gl X "parts_of" := by rfl) (he : starEach [e1, e2] X.env = (false, eval e1 X.env) :: starEach [e2] X.env := by rfl) (hpl : (backTo pos (starEach [e2] X.env)).any (·.1) = false := by rfl) : PX X (.Call (.Name "parts_of" p) [e1, e2] [] pos) Γ o (is X.K (v_parts_of state fineness)) := x_callF (ok_parts_of T) hr (state, fineness) hp h rfl hg (by decide) he hpl
theorem sc_state_inside : FnScope ["inner", "outer"] ["inner", "outer"] (defScope st_state_inside) := ⟨rfl, rfl, rfl, by decide +kernel, rfl, by decide +kernel, by decide +kernel⟩
abbrev v_state_inside (inner : State) (outer : State) : Bool := sInside inner outer
theorem ok_state_inside {P : Program} {w : World} {K : Fg} {mg : Str → Option Value} {base : Heap} (T : Tx w K mg) : Fok P w K mg base 3 "state_inside" ["inner", "outer"] (spF (fun a : State × State => True) (fun a : State × State => [is K a.1, is K a.2]) fun a => is K (v_state_inside a.1 a.2)) := by
  refine fokR T.fn_state_inside T.glo_state_inside (fun _ _ _ _ _ _ us hl => match us, hl with | [_, _], _ => rfl) sc_state_inside (fun _ => rfl) fun cdv A outer s H E hr a hp => ?_
  obtain ⟨inner, outer⟩ := a
  have nd := sc_state_inside.nd
  show SXs _ _ (as (G0 [is K inner, is K outer] _) none) _ _ _ (retV (is K (v_state_inside inner outer)))
  exact sx_last (sx_retD (x_and (c_box_inside T (hr.mono (by decide)) (xs_cons (f_State_place T (x_var 0 rfl)) (xs_cons (f_State_place T (x_var 1 rfl)) xs_nil))) fun _ => (x_one (c_box_inside T (hr.mono (by decide)) (xs_cons (f_State_speed T (x_var 0 rfl)) (xs_cons (f_State_speed T (x_var 1 rfl)) xs_nil))))) rfl)
theorem c_state_inside {X : Cx} {Γ : Gm} {o : Option Own} {e1 e2 : Expr} {p pos : Pos} {inner : State} {outer : State} (T : Tx X.w X.K X.mg) (hr : Room 3 X.A) (h : PAX X [e1, e2] Γ o [is X.K inner, is X.K outer]) (hg : Gl X "state_inside" := by rfl) (he : starEach [e1, e2] X.env = (false, eval e1 X.env) :: starEach [e2] X.env := by rfl) (hpl : (backTo pos (starEach [e2] X.env)).any (·.1) = false := by rfl) : PX X (.Call (.Name "state_inside" p) [e1, e2] [] pos) Γ o (is X.K (v_state_inside inner outer)) := x_callF (ok_state_inside T) hr (inner, outer) trivial h rfl hg (by decide) he hpl
theorem sc_state_has : FnScope ["state", "place", "speed"] ["state", "place", "speed"] (defScope st_state_has) := ⟨rfl, rfl, rfl, by decide +kernel, rfl, by decide +kernel, by decide +kernel⟩
abbrev v_state_has (state : State) (place : Pt) (speed : Pt) : Bool := sHas state place speed
theorem ok_state_has {P : Program} {w : World} {K : Fg} {mg : Str → Option Value} {base : Heap} (T : Tx w K mg) : Fok P w K mg base 3 "state_has" ["state", "place", "speed"] (spF (fun a : State × Pt × Pt => True) (fun a : State × Pt × Pt => [is K a.1, is K a.2.1, is K a.2.2]) fun a => is K (v_state_has a.1 a.2.1 a.2.2)) := by
  refine fokR T.fn_state_has T.glo_state_has (fun _ _ _ _ _ _ us hl => match us, hl with | [_, _, _], _ => rfl) sc_state_has (fun _ => rfl) fun cdv A outer s H E hr a hp => ?_
  obtain ⟨state, place, speed⟩ := a
  have nd := sc_state_has.nd
  show SXs _ _ (as (G0 [is K state, is K place, is K speed] _) none) _ _ _ (retV (is K (v_state_has state place speed)))
  exact sx_last (sx_retD (x_and (c_box_has T (hr.mono (by decide)) (xs_cons (f_State_place T (x_var 0 rfl)) (xs_cons (x_var 1 rfl) xs_nil))) fun _ => (x_one (c_box_has T (hr.mono (by decide)) (xs_cons (f_State_speed T (x_var 0 rfl)) (xs_cons (x_var 2 rfl) xs_nil))))) rfl)
theorem c_state_has {X : Cx} {Γ : Gm} {o : Option Own} {e1 e2 e3 : Expr} {p pos : Pos} {state : State} {place : Pt} {speed : Pt} (T : Tx X.w X.K X.mg) (hr : Room 3 X.A) (h : PAX X [e1, e2, e3] Γ o [is X.K state, is X.K place, is X.K speed]) (hg : Gl X "state_has" := by rfl) (he : starEach [e1, e2, e3] X.env = (false, eval e1 X.env) :: starEach [e2, e3] X.env := by rfl) (hpl : (backTo pos (starEach [e2, e3] X.env)).any (·.1) = false := by rfl) : PX X (.Call (.Name "state_has" p) [e1, e2, e3] [] pos) Γ o (is X.K (v_state_has state place speed)) := x_callF (ok_state_has T) hr (state, place, speed) trivial h rfl hg (by decide) he hpl
theorem sc_step : FnScope ["body", "state", "push", "drift", "a", "speed", "place"] ["body", "state", "push", "drift"] (defScope st_step) := ⟨rfl, rfl, rfl, by decide +kernel, rfl, by decide +kernel, by decide +kernel⟩
abbrev v_step (body_ : Body) (state : State) (push : Box) (drift : Int) : Option (State) := stepS body_ state push drift
def p_step (body_ : Body) (state : State) (push : Box) (drift : Int) : Prop := BV state.place ∧ BB 140 state.place ∧ Sm 100 body_.mu ∧ Sm 100 body_.obl
theorem ok_step {P : Program} {w : World} {K : Fg} {mg : Str → Option Value} {base : Heap} (T : Tx w K mg) : Fok P w K mg base 4 "step" ["body", "state", "push", "drift"] (spF (fun a : Body × State × Box × Int => p_step a.1 a.2.1 a.2.2.1 a.2.2.2) (fun a : Body × State × Box × Int => [is K a.1, is K a.2.1, is K a.2.2.1, is K a.2.2.2]) fun a => is K (v_step a.1 a.2.1 a.2.2.1 a.2.2.2)) := by
  refine fokR T.fn_step T.glo_step (fun _ _ _ _ _ _ us hl => match us, hl with | [_, _, _, _], _ => rfl) sc_step (fun _ => rfl) fun cdv A outer s H E hr a hp => ?_
  obtain ⟨body_, state, push, drift⟩ := a
  have nd := sc_step.nd
  have hp : p_step body_ state push drift := hp
  show SXs _ _ (as (G0 [is K body_, is K state, is K push, is K drift] _) none) _ _ _ (retV (is K (v_step body_ state push drift)))
  have ev : v_step body_ state push drift = stepS body_ state push drift := rfl
  unfold stepS at ev
  refine sx_cons (sx_set 4 nd (c_pull_over T (hr.mono (by decide)) (xs_cons (x_var 0 rfl) (xs_cons (f_State_place T (x_var 1 rfl)) xs_nil)) hp)) ?_
  unfold v_pull_over
  generalize pullOver body_ state.place = a at ev ⊢
  refine sx_ifx (t_isNo (x_var 4 rfl)) (fun h => ?_) (fun h => ?_)
  · cases a with
    | none => exact sx_last (sx_retNo x_non ev.symm)
    | some a => cases h
  · cases a with
    | none => cases h
    | some a =>
      refine sx_cons (sx_set 5 nd (c_box_widened T (hr.mono (by decide)) (xs_cons (c_box_add T (hr.mono (by decide)) (xs_cons (c_box_add T (hr.mono (by decide)) (xs_cons (f_State_speed T (x_var 1 rfl)) (xs_cons (x_some (x_var 4 rfl)) xs_nil))) (xs_cons (x_var 2 rfl) xs_nil))) (xs_cons (x_var 3 rfl) xs_nil)))) ?_
      refine sx_cons (sx_set 6 nd (c_box_add T (hr.mono (by decide)) (xs_cons (f_State_place T (x_var 1 rfl)) (xs_cons (x_var 5 rfl) xs_nil)))) ?_
      have ev : v_step body_ state push drift = if LIMIT < Box.size (Box.add state.place (newSpeed state a push drift)) ∨ LIMIT < Box.size (newSpeed state a push drift) then none else some ⟨Box.add state.place (newSpeed state a push drift), newSpeed state a push drift⟩ := ev
      refine sx_ifx (t_w (w_or (t_gt (c_box_size T (hr.mono (by decide)) (xs_cons (x_var 6 rfl) xs_nil)) (x_globI T.int_LIMIT)) fun _ => w_or1 (t_gt (c_box_size T (hr.mono (by decide)) (xs_cons (x_var 5 rfl) xs_nil)) (x_globI T.int_LIMIT)))) (fun h => ?_) (fun h => ?_)
      · rw [if_pos (by
          rcases Bool.or_eq_true_iff.mp h with h | h
          · exact .inl (of_decide_eq_true h)
          · exact .inr (of_decide_eq_true h))] at ev
        exact sx_last (sx_retNo x_non ev.symm)
      · have h2 := Bool.or_eq_false_iff.mp h
        rw [if_neg (by
          rintro (h3 | h3)
          · exact of_decide_eq_false h2.1 h3
          · exact of_decide_eq_false h2.2 h3)] at ev
        exact sx_last (sx_retS (c_State T (hr.mono (by decide)) (xs_cons (x_var 6 rfl) (xs_cons (x_var 5 rfl) xs_nil))) ev.symm)
theorem c_step {X : Cx} {Γ : Gm} {o : Option Own} {e1 e2 e3 e4 : Expr} {p pos : Pos} {body_ : Body} {state : State} {push : Box} {drift : Int} (T : Tx X.w X.K X.mg) (hr : Room 4 X.A) (h : PAX X [e1, e2, e3, e4] Γ o [is X.K body_, is X.K state, is X.K push, is X.K drift]) (hp : p_step body_ state push drift) (hg : Gl X "step" := by rfl) (he : starEach [e1, e2, e3, e4] X.env = (false, eval e1 X.env) :: starEach [e2, e3, e4] X.env := by rfl) (hpl : (backTo pos (starEach [e2, e3, e4] X.env)).any (·.1) = false := by rfl) : PX X (.Call (.Name "step" p) [e1, e2, e3, e4] [] pos) Γ o (is X.K (v_step body_ state push drift)) := x_callF (ok_step T) hr (body_, state, push, drift) hp h rfl hg (by decide) he hpl
theorem sc_cut : FnScope ["state", "box", "place"] ["state", "box"] (defScope st_cut) := ⟨rfl, rfl, rfl, by decide +kernel, rfl, by decide +kernel, by decide +kernel⟩
abbrev v_cut (state : State) (box : Box) : Option (State) := cutS state box
theorem ok_cut {P : Program} {w : World} {K : Fg} {mg : Str → Option Value} {base : Heap} (T : Tx w K mg) : Fok P w K mg base 3 "cut" ["state", "box"] (spF (fun a : State × Box => True) (fun a : State × Box => [is K a.1, is K a.2]) fun a => is K (v_cut a.1 a.2)) := by
  refine fokR T.fn_cut T.glo_cut (fun _ _ _ _ _ _ us hl => match us, hl with | [_, _], _ => rfl) sc_cut (fun _ => rfl) fun cdv A outer s H E hr a hp => ?_
  obtain ⟨state, box⟩ := a
  have nd := sc_cut.nd
  show SXs _ _ (as (G0 [is K state, is K box] _) none) _ _ _ (retV (is K (v_cut state box)))
  have ev : v_cut state box = cutS state box := rfl
  unfold cutS at ev
  refine sx_cons (sx_set 2 nd (c_box_meet T (hr.mono (by decide)) (xs_cons (f_State_place T (x_var 0 rfl)) (xs_cons (x_var 1 rfl) xs_nil)))) ?_
  unfold v_box_meet
  generalize Box.meet state.place box = a at ev ⊢
  refine sx_ifx (t_isNo (x_var 2 rfl)) (fun h => ?_) (fun h => ?_)
  · cases a with
    | none => exact sx_last (sx_retNo x_non ev.symm)
    | some a => cases h
  · cases a with
    | none => cases h
    | some a => exact sx_last (sx_retS (c_State T (hr.mono (by decide)) (xs_cons (x_some (x_var 2 rfl)) (xs_cons (f_State_speed T (x_var 0 rfl)) xs_nil))) ev.symm)
theorem c_cut {X : Cx} {Γ : Gm} {o : Option Own} {e1 e2 : Expr} {p pos : Pos} {state : State} {box : Box} (T : Tx X.w X.K X.mg) (hr : Room 3 X.A) (h : PAX X [e1, e2] Γ o [is X.K state, is X.K box]) (hg : Gl X "cut" := by rfl) (he : starEach [e1, e2] X.env = (false, eval e1 X.env) :: starEach [e2] X.env := by rfl) (hpl : (backTo pos (starEach [e2] X.env)).any (·.1) = false := by rfl) : PX X (.Call (.Name "cut" p) [e1, e2] [] pos) Γ o (is X.K (v_cut state box)) := x_callF (ok_cut T) hr (state, box) trivial h rfl hg (by decide) he hpl
end Or
set_option maxHeartbeats 400000
/-! States stay whole and within bounds. -/
namespace Or
open PySem L2 L3
theorem IV.add {a b : Iv} (h : IV a) (g : IV b) : IV (Iv.add a b) := by unfold IV Iv.add at *; dsimp only; omega
theorem IV.sub {a b : Iv} (h : IV a) (g : IV b) : IV (Iv.sub a b) := by unfold IV Iv.sub at *; dsimp only; omega
theorem IV.widened {a : Iv} {w : Int} (h : IV a) (g : 0 ≤ w) : IV (Iv.widened a w) := by unfold IV Iv.widened at *; dsimp only; omega
theorem IV.hull {a b : Iv} (h : IV a) (g : IV b) : IV (Iv.hull a b) := by unfold IV Iv.hull at *; dsimp only; omega
theorem IV.scaled {a : Iv} {n : Int} (h : IV a) : IV (Iv.scaled a n) := by
  unfold IV Iv.scaled at *
  split
  · exact Int.mul_le_mul_of_nonpos_right h (by omega)
  · exact Int.mul_le_mul_of_nonneg_right h (by omega)
theorem IV.quot {a d : Iv} (h : IV a) (h1 : 0 < d.a) : IV (Iv.quot a d) := by
  unfold IV Iv.quot at *
  have : a.a / d.a ≤ a.b / d.a := Int.ediv_le_ediv h1 h
  dsimp only
  omega
theorem IV.mul (a b : Iv) : IV (Iv.mul a b) := by
  unfold IV Iv.mul Iv.min4 Iv.max4
  dsimp only
  omega
theorem IV.meet {a b c : Iv} (h : Iv.meet a b = some c) : IV c := by
  unfold Iv.meet at h
  split at h
  · cases h
  · cases h
    unfold IV
    dsimp only
    omega
theorem BV.add {a b : Box} (h : BV a) (g : BV b) : BV (Box.add a b) := ⟨h.1.add g.1, h.2.1.add g.2.1, h.2.2.add g.2.2⟩
theorem BV.widened {a : Box} {w : Int} (h : BV a) (g : 0 ≤ w) : BV (Box.widened a w) := ⟨h.1.widened g, h.2.1.widened g, h.2.2.widened g⟩
theorem meet_box {a b c : Box} (h : Box.meet a b = some c) : Iv.meet a.a b.a = some c.a ∧ Iv.meet a.b b.b = some c.b ∧ Iv.meet a.c b.c = some c.c := by
  unfold Box.meet at h
  split at h
  · rename_i x y z h1 h2 h3
    cases h
    exact ⟨h1, h2, h3⟩
  · cases h
theorem BV.meet {a b c : Box} (h : Box.meet a b = some c) : BV c := let ⟨h1, h2, h3⟩ := meet_box h; ⟨IV.meet h1, IV.meet h2, IV.meet h3⟩
theorem BI.meet {n : Nat} {a b c : Iv} (ha : BI n a) (hb : BI n b) (h : Iv.meet a b = some c) : BI n c := by
  unfold Iv.meet at h
  split at h
  · cases h
  · cases h
    exact ⟨ha.1.max hb.1, ha.2.min hb.2⟩
theorem BB.meet {n : Nat} {a b c : Box} (ha : BB n a) (hb : BB n b) (h : Box.meet a b = some c) : BB n c := let ⟨h1, h2, h3⟩ := meet_box h; ⟨BI.meet ha.1 hb.1 h1, BI.meet ha.2.1 hb.2.1 h2, BI.meet ha.2.2 hb.2.2 h3⟩
theorem pull_iv {b : Body} {x : Box} (hv : BV x) (n : ¬ (Box.sqlen x).a = 0) {i : Nat} (hi : i < 3) : IV (pullIv b x i) := by
  have ps := sqlen_pos hv n
  have pd := mul_pos' ps (root_pos ps)
  have pe := mul_pos' (mul_pos' ps ps) pd
  have hx : IV (Box.at_ x i) := by
    match i, hi with
    | 0, _ => exact hv.1
    | 1, _ => exact hv.2.1
    | 2, _ => exact hv.2.2
  exact (hx.scaled.quot (by omega)).add ((IV.mul _ _).scaled.quot (by omega))
theorem pull_bv {b : Body} {x y : Box} (hv : BV x) (h : pullOver b x = some y) : BV y := by
  unfold pullOver at h
  split at h
  · cases h
  · rename_i n
    cases h
    exact ⟨pull_iv hv n (by decide), pull_iv hv n (by decide), pull_iv hv n (by decide)⟩
theorem limit_lt : LIMIT < 2 ^ 140 := by decide
theorem sm_ab {x : Int} (h : Iv.ab x ≤ LIMIT) : Sm 140 x := by
  have h1 := limit_lt
  have h2 : (x.natAbs : Int) ≤ LIMIT := by unfold Iv.ab at h; split at h <;> omega
  unfold Sm
  have h3 : (x.natAbs : Int) < ((2 ^ 140 : Nat) : Int) := Int.lt_of_le_of_lt h2 h1
  exact Int.ofNat_lt.mp h3
theorem bb_size {x : Box} (h : ¬ LIMIT < Box.size x) : BB 140 x := by
  unfold Box.size Iv.size at h
  have h1 : Iv.ab x.a.a ≤ LIMIT ∧ Iv.ab x.a.b ≤ LIMIT ∧ Iv.ab x.b.a ≤ LIMIT ∧ Iv.ab x.b.b ≤ LIMIT ∧ Iv.ab x.c.a ≤ LIMIT ∧ Iv.ab x.c.b ≤ LIMIT := by
    generalize LIMIT = L at h ⊢
    omega
  exact ⟨⟨sm_ab h1.1, sm_ab h1.2.1⟩, ⟨sm_ab h1.2.2.1, sm_ab h1.2.2.2.1⟩, ⟨sm_ab h1.2.2.2.2.1, sm_ab h1.2.2.2.2.2⟩⟩
/-- a state that steps well -/
structure SOk (s : State) : Prop where
  pv : BV s.place
  sv : BV s.speed
  pb : BB 140 s.place
theorem step_ok {b : Body} {s s' : State} {push : Box} {drift : Int} (h : SOk s) (hp : BV push) (hd : 0 ≤ drift) (e : stepS b s push drift = some s') : SOk s' := by
  unfold stepS at e
  split at e
  · cases e
  · rename_i a ha
    split at e
    · cases e
    · rename_i hl
      cases e
      have sv : BV (newSpeed s a push drift) := ((h.sv.add (pull_bv h.pv ha)).add hp).widened hd
      exact ⟨h.pv.add sv, sv, bb_size fun z => hl (.inl z)⟩
theorem cut_ok {s s' : State} {b : Box} (h : SOk s) (hb : BB 140 b) (e : cutS s b = some s') : SOk s' := by
  unfold cutS at e
  split at e
  · cases e
  · rename_i p hp
    cases e
    exact ⟨BV.meet hp, h.sv, h.pb.meet hb hp⟩
theorem iv_put {x : Box} {k : Int} {i : Iv} (h : BV x) (g : IV i) : BV (Box.put x k i) := by
  unfold Box.put
  refine ⟨?_, ?_, ?_⟩
  · dsimp only; split; exact g; exact h.1
  · dsimp only; split; exact g; exact h.2.1
  · dsimp only; split; exact g; exact h.2.2
theorem bb_put {n : Nat} {x : Box} {k : Int} {i : Iv} (h : BB n x) (g : BI n i) : BB n (Box.put x k i) := by
  unfold Box.put
  refine ⟨?_, ?_, ?_⟩
  · dsimp only; split; exact g; exact h.1
  · dsimp only; split; exact g; exact h.2.1
  · dsimp only; split; exact g; exact h.2.2
theorem mid_in {a : Iv} (h : IV a) (n : ¬ a.a = a.b) : a.a ≤ Iv.middle a ∧ Iv.middle a + 1 ≤ a.b := by
  unfold IV at h
  unfold Iv.middle
  omega
theorem sm_between {n : Nat} {x y z : Int} (hx : Sm n x) (hy : Sm n y) (h1 : x ≤ z) (h2 : z ≤ y) : Sm n z := by
  unfold Sm at *
  omega
theorem ivs_iv {s : State} (h1 : BV s.place) (h2 : BV s.speed) (k : Nat) : IV (s.ivs.getD k ⟨0, 0⟩) := by
  match k with
  | 0 => exact h1.1
  | 1 => exact h1.2.1
  | 2 => exact h1.2.2
  | 3 => exact h2.1
  | 4 => exact h2.2.1
  | 5 => exact h2.2.2
  | k + 6 => exact Int.le_refl 0
theorem ivs_bi {s : State} {n : Nat} (h : BB n s.place) {k : Nat} (hk : k < 3) : BI n (s.ivs.getD k ⟨0, 0⟩) := by
  match k, hk with
  | 0, _ => exact h.1
  | 1, _ => exact h.2.1
  | 2, _ => exact h.2.2
theorem half_ok {s : State} (h : SOk s) {k : Nat} {i : Iv} (g : IV i) (hb : k < 3 → BI 140 i) : SOk (half s k i) := by
  unfold half
  split
  · exact ⟨iv_put h.pv g, h.sv, bb_put h.pb (hb (by omega))⟩
  · exact ⟨h.pv, iv_put h.sv g, h.pb⟩
theorem split_ok {s s' : State} (h : SOk s) (m : s' ∈ split s) : SOk s' := by
  unfold split at m
  dsimp only at m
  generalize widest s.ivs 5 = k at m
  have hv := ivs_iv h.pv h.sv k
  have hb : k < 3 → BI 140 (s.ivs.getD k ⟨0, 0⟩) := ivs_bi h.pb
  generalize s.ivs.getD k ⟨0, 0⟩ = a at m hv hb
  split at m
  · have e : s' = s := by simpa using m
    rw [e]
    exact h
  · rename_i n
    obtain ⟨m1, m2⟩ := mid_in hv n
    rcases List.mem_cons.mp m with e | m
    · rw [e]
      exact half_ok h m1 fun hk => ⟨(hb hk).1, sm_between (hb hk).1 (hb hk).2 m1 (show Iv.middle a ≤ a.b by omega)⟩
    · have e : s' = half s k ⟨Iv.middle a + 1, a.b⟩ := by simpa using m
      rw [e]
      exact half_ok h m2 fun hk => ⟨sm_between (hb hk).1 (hb hk).2 (show a.a ≤ Iv.middle a + 1 by omega) m2, (hb hk).2⟩
theorem parts_ok {s : State} (h : SOk s) : ∀ (n : Nat) (s' : State), s' ∈ partsOf s n → SOk s'
  | 0, s', m => by
    have e : s' = s := by simpa [partsOf] using m
    rw [e]
    exact h
  | n + 1, s', m => by
    obtain ⟨t, ht, m⟩ := List.mem_flatMap.mp (show s' ∈ (partsOf s n).flatMap split from m)
    exact split_ok (parts_ok h n t ht) m
/-- a craft whose states step well -/
structure COk (c : Craft) : Prop where
  pv : BV c.place
  sv : BV c.speed
  pb : BB 140 c.place
  dr : 0 ≤ c.drift
  bu : ∀ u ∈ c.burns.l, BV u.push
  si : ∀ u ∈ c.sights.l, BB 140 u.place
structure BOk (b : Body) : Prop where
  mu : Sm 100 b.mu
  ob : Sm 100 b.obl
theorem push_bv {c : Craft} (h : COk c) (t : Int) : BV (pushAt c t) := by
  unfold pushAt
  split
  · rename_i u e
    exact h.bu u (List.mem_of_find?_eq_some e)
  · exact ⟨Int.le_refl 0, Int.le_refl 0, Int.le_refl 0⟩
theorem sight_bb {c : Craft} (h : COk c) {t : Int} {x : Box} (e : sightAt c t = some x) : BB 140 x := by
  unfold sightAt at e
  cases q : c.sights.l.find? (seenAt t) with
  | none => rw [q] at e; cases e
  | some u =>
    rw [q] at e
    cases e
    exact h.si u (List.mem_of_find?_eq_some q)
theorem cutAll_ok {c : Craft} (h : COk c) {l : List State} (hl : ∀ s ∈ l, SOk s) (t : Int) : ∀ s ∈ cutAll l (sightAt c t), SOk s := by
  intro s m
  unfold cutAll at m
  split at m
  · exact hl s m
  · rename_i b e
    obtain ⟨s0, m0, e0⟩ := List.mem_filterMap.mp m
    exact cut_ok (hl s0 m0) (sight_bb h e) e0
theorem cutAll_len {l : List State} {b : Option Box} : (cutAll l b).length ≤ l.length := by
  unfold cutAll
  split
  · exact Nat.le_refl _
  · exact List.length_filterMap_le ..
theorem first_ok {c : Craft} (h : COk c) (fine : Int) : ∀ s ∈ firstStates fine c, SOk s :=
  cutAll_ok h (fun s m => parts_ok ⟨h.pv, h.sv, h.pb⟩ _ s m) c.start
theorem stepL_mem {b : Body} {push : Box} {drift : Int} : ∀ {l r : List State}, stepL b push drift l = some r → ∀ s' ∈ r, ∃ s ∈ l, stepS b s push drift = some s'
  | [], r, h, s', m => by
    cases h
    cases m
  | s :: l, r, h, s', m => by
    unfold stepL at h
    split at h
    · cases h
    · rename_i x e
      cases q : stepL b push drift l with
      | none => rw [q] at h; cases h
      | some r' =>
        rw [q] at h
        cases h
        rcases List.mem_cons.mp m with e1 | m
        · rw [e1]
          exact ⟨s, List.mem_cons_self, e⟩
        · obtain ⟨t, h1, h2⟩ := stepL_mem q s' m
          exact ⟨t, List.mem_cons_of_mem _ h1, h2⟩
theorem stepL_len {b : Body} {push : Box} {drift : Int} : ∀ {l r : List State}, stepL b push drift l = some r → r.length = l.length
  | [], r, h => by
    cases h
    rfl
  | s :: l, r, h => by
    unfold stepL at h
    split at h
    · cases h
    · rename_i x e
      cases q : stepL b push drift l with
      | none => rw [q] at h; cases h
      | some r' =>
        rw [q] at h
        cases h
        simp [stepL_len q]
theorem stepAll_ok {b : Body} {c : Craft} (h : COk c) {m : Moment} (hm : ∀ s ∈ m.states, SOk s) {r : List State} (e : stepAll b c m = some r) : ∀ s ∈ r, SOk s := by
  intro s' ms
  obtain ⟨s, h1, h2⟩ := stepL_mem e s' ms
  exact step_ok (hm s h1) (push_bv h _) h.dr h2
/-- a moment as journeys make it -/
structure MOk (m : Moment) : Prop where
  ok : ∀ s ∈ m.states, SOk s
  len : m.states.length ≤ 64
  pos : 0 < m.states.length
end Or
set_option maxHeartbeats 400000
namespace Or
open PySem PySem.Spec PyProof.Rows L2 L3
local macro_rules | `(tactic| walk_at "gle") => `(tactic| (repeat (first | exact GLe.nil | refine GLe.keep ?_ | refine GLe.drop ?_)))
theorem seen_get {K : Fg} (c : Craft) (t : Int) : True := trivial
theorem sc_Moment_init : FnScope ["self", "at", "states"] ["self", "at", "states"] (defScope st_Moment_init) := ⟨rfl, rfl, rfl, by decide +kernel, rfl, by decide +kernel, by decide +kernel⟩
abbrev v_Moment (at_ : Int) (states : List (State)) : Moment := ⟨at_, states⟩
theorem ok_Moment {P : Program} {w : World} {K : Fg} {mg : Str → Option Value} {base : Heap} (T : Tx w K mg) : Cok P w K mg base 1 "Moment" ["self", "at", "states"] [] (spM (He.ga K "Moment") (fun a : Int × List (State) => True) (fun a => [is K a.1, is K a.2]) (fun _ => []) (fun a => fMoment K (v_Moment a.1 a.2)) fun _ => eqv .non) := by
  refine cokR (C := "Moment") T.fn_Moment_init T.glo_Moment T.mkr_Moment (fun _ _ _ _ _ _ us hl => match us, hl with | [_, _, _], _ => rfl) sc_Moment_init (fun _ => rfl) (by decide) fun cdv A outer s H E hr y a hp => ?_
  obtain ⟨at_, states⟩ := a
  have nd := sc_Moment_init.nd
  show SXs _ _ (as ((G0 (anyV :: [is K at_, is K states]) _).set 0 none) (some (ownI y (He.ga K "Moment") 0 []))) (exA _ fun Γ => as Γ (some (ownI y (He.ga K "Moment") 0 (fMoment K (v_Moment at_ states))))) _ _ _
  refine sx_cons (sx_fldN T.cls_Moment T.noat_Moment_at (show ("at" : Str) ∉ ([] : List Str) by decide +kernel) (x_var 1 rfl)) ?_
  refine sx_cons (sx_fldN T.cls_Moment T.noat_Moment_states (show ("states" : Str) ∉ (["at"] : List Str) by decide +kernel) (x_lstL T.free_list (xs_cons (x_var 2 rfl) xs_nil))) ?_
  exact sx_end (exA_in _ trivial (as_own (by rfl)))
theorem c_Moment {X : Cx} {Γ : Gm} {o : Option Own} {e1 e2 : Expr} {p pos : Pos} {at_ : Int} {states : List (State)} (T : Tx X.w X.K X.mg) (hr : Room 2 X.A) (h : PAX X [e1, e2] Γ o [is X.K at_, is X.K states]) (hg : Gl X "Moment" := by rfl) (he : starEach [e1, e2] X.env = (false, eval e1 X.env) :: starEach [e2] X.env := by rfl) (hpl : (backTo pos (starEach [e2] X.env)).any (·.1) = false := by rfl) : PX X (.Call (.Name "Moment" p) [e1, e2] [] pos) Γ o (is X.K (v_Moment at_ states)) := x_makeC (Ds := []) (ok_Moment T) hr trivial (at_, states) trivial h rfl hg (by decide) he hpl
theorem sc_Journey_init : FnScope ["self", "moments", "ending", "broken"] ["self", "moments", "ending", "broken"] (defScope st_Journey_init) := ⟨rfl, rfl, rfl, by decide +kernel, rfl, by decide +kernel, by decide +kernel⟩
abbrev v_Journey (moments : List (Moment)) (ending : Str) (broken : Option (Int)) : Journey := ⟨moments, ending, broken⟩
theorem ok_Journey {P : Program} {w : World} {K : Fg} {mg : Str → Option Value} {base : Heap} (T : Tx w K mg) : Cok P w K mg base 1 "Journey" ["self", "moments", "ending", "broken"] [] (spM (He.ga K "Journey") (fun a : List (Moment) × Str × Option (Int) => True) (fun a => [is K a.1, is K a.2.1, is K a.2.2]) (fun _ => []) (fun a => fJourney K (v_Journey a.1 a.2.1 a.2.2)) fun _ => eqv .non) := by
  refine cokR (C := "Journey") T.fn_Journey_init T.glo_Journey T.mkr_Journey (fun _ _ _ _ _ _ us hl => match us, hl with | [_, _, _, _], _ => rfl) sc_Journey_init (fun _ => rfl) (by decide) fun cdv A outer s H E hr y a hp => ?_
  obtain ⟨moments, ending, broken⟩ := a
  have nd := sc_Journey_init.nd
  show SXs _ _ (as ((G0 (anyV :: [is K moments, is K ending, is K broken]) _).set 0 none) (some (ownI y (He.ga K "Journey") 0 []))) (exA _ fun Γ => as Γ (some (ownI y (He.ga K "Journey") 0 (fJourney K (v_Journey moments ending broken))))) _ _ _
  refine sx_cons (sx_fldN T.cls_Journey T.noat_Journey_moments (show ("moments" : Str) ∉ ([] : List Str) by decide +kernel) (x_lstL T.free_list (xs_cons (x_var 1 rfl) xs_nil))) ?_
  refine sx_cons (sx_fldN T.cls_Journey T.noat_Journey_ending (show ("ending" : Str) ∉ (["moments"] : List Str) by decide +kernel) (x_var 2 rfl)) ?_
  refine sx_cons (sx_fldN T.cls_Journey T.noat_Journey_broken (show ("broken" : Str) ∉ (["moments", "ending"] : List Str) by decide +kernel) (x_var 3 rfl)) ?_
  exact sx_end (exA_in _ trivial (as_own (by rfl)))
theorem c_Journey {X : Cx} {Γ : Gm} {o : Option Own} {e1 e2 e3 : Expr} {p pos : Pos} {moments : List (Moment)} {ending : Str} {broken : Option (Int)} (T : Tx X.w X.K X.mg) (hr : Room 2 X.A) (h : PAX X [e1, e2, e3] Γ o [is X.K moments, is X.K ending, is X.K broken]) (hg : Gl X "Journey" := by rfl) (he : starEach [e1, e2, e3] X.env = (false, eval e1 X.env) :: starEach [e2, e3] X.env := by rfl) (hpl : (backTo pos (starEach [e2, e3] X.env)).any (·.1) = false := by rfl) : PX X (.Call (.Name "Journey" p) [e1, e2, e3] [] pos) Γ o (is X.K (v_Journey moments ending broken)) := x_makeC (Ds := []) (ok_Journey T) hr trivial (moments, ending, broken) trivial h rfl hg (by decide) he hpl
theorem sc_sighting_at : FnScope ["craft", "at", "sighting"] ["craft", "at"] (defScope st_sighting_at) := ⟨rfl, rfl, rfl, by decide +kernel, rfl, by decide +kernel, by decide +kernel⟩
abbrev v_sighting_at (craft : Craft) (at_ : Int) : Option (Box) := sightAt craft at_
theorem ok_sighting_at {P : Program} {w : World} {K : Fg} {mg : Str → Option Value} {base : Heap} (T : Tx w K mg) : Fok P w K mg base 1 "sighting_at" ["craft", "at"] (spF (fun a : Craft × Int => True) (fun a : Craft × Int => [is K a.1, is K a.2]) fun a => is K (v_sighting_at a.1 a.2)) := by
  refine fokR T.fn_sighting_at T.glo_sighting_at (fun _ _ _ _ _ _ us hl => match us, hl with | [_, _], _ => rfl) sc_sighting_at (fun _ => rfl) fun cdv A outer s H E hr a hp => ?_
  obtain ⟨craft, at_⟩ := a
  have nd := sc_sighting_at.nd
  show SXs _ _ (as (G0 [is K craft, is K at_] _) none) _ _ _ (retV (is K (v_sighting_at craft at_)))
  have key : ∀ l : List Sight, (∀ (k : Nat) (a : Sight), l[k]? = some a → k < l.length) := fun l k a h => (List.getElem?_eq_some_iff.mp h).1
  refine sx_forS 2 nd craft.sights.l (fun k => ∀ (j : Nat) (z : Sight), j < k → craft.sights.l[j]? = some z → seenAt at_ z = false) (i_T (f_Craft_sightings T (x_var 0 rfl))) (fun j z h => absurd h (Nat.not_lt_zero j)) (fun k a ha hk => ?_) (fun hk => ?_)
  · refine sx_ifx (t_eq (f_Sighting_at T (x_var 2 rfl)) (x_var 1 rfl)) (fun h => ?_) (fun h => ?_)
    · refine sx_last (sx_retS (f_Sighting_place T (x_var 2 rfl)) ?_)
      have e : craft.sights.l.find? (seenAt at_) = some a := find_at ha h hk
      show _ = (craft.sights.l.find? (seenAt at_)).map (·.place)
      rw [e]
      rfl
    · refine sx_endS1 ?_ rfl
      intro j z hj hz
      rcases Nat.lt_succ_iff_lt_or_eq.mp hj with hj | hj
      · exact hk j z hj hz
      · subst hj
        rw [ha] at hz
        cases hz
        exact h
  · have hk := find_no fun j z hz => hk j z (List.getElem?_eq_some_iff.mp hz).1 hz
    refine sx_last (sx_retNo x_non ?_)
    show _ = (craft.sights.l.find? (seenAt at_)).map (·.place)
    rw [hk]
    rfl
theorem c_sighting_at {X : Cx} {Γ : Gm} {o : Option Own} {e1 e2 : Expr} {p pos : Pos} {craft : Craft} {at_ : Int} (T : Tx X.w X.K X.mg) (hr : Room 1 X.A) (h : PAX X [e1, e2] Γ o [is X.K craft, is X.K at_]) (hg : Gl X "sighting_at" := by rfl) (he : starEach [e1, e2] X.env = (false, eval e1 X.env) :: starEach [e2] X.env := by rfl) (hpl : (backTo pos (starEach [e2] X.env)).any (·.1) = false := by rfl) : PX X (.Call (.Name "sighting_at" p) [e1, e2] [] pos) Γ o (is X.K (v_sighting_at craft at_)) := x_callF (ok_sighting_at T) hr (craft, at_) trivial h rfl hg (by decide) he hpl
theorem fm_succ {α β : Type} {f : α → Option β} {l : List α} {k : Nat} {a : α} (h : l[k]? = some a) : (l.take (k + 1)).filterMap f = (l.take k).filterMap f ++ (match f a with | some b => [b] | none => []) := by
  rw [List.take_succ, h, List.filterMap_append]
  congr 1
  show ([a] : List α).filterMap f = _
  cases q : f a <;> simp [q]
theorem fm_len {α β : Type} {f : α → Option β} {l : List α} {k : Nat} : ((l.take k).filterMap f).length ≤ l.length := Nat.le_trans (List.length_filterMap_le ..) (by rw [List.length_take]; omega)
theorem sc_cut_all : FnScope ["states", "box", "left", "state", "less"] ["states", "box"] (defScope st_cut_all) := ⟨rfl, rfl, rfl, by decide +kernel, rfl, by decide +kernel, by decide +kernel⟩
abbrev v_cut_all (states : List (State)) (box : Option (Box)) : List (State) := cutAll states box
def p_cut_all (states : List (State)) (box : Option (Box)) : Prop := states.length ≤ 1000
theorem ok_cut_all {P : Program} {w : World} {K : Fg} {mg : Str → Option Value} {base : Heap} (T : Tx w K mg) : Fok P w K mg base 4 "cut_all" ["states", "box"] (spF (fun a : List (State) × Option (Box) => p_cut_all a.1 a.2) (fun a : List (State) × Option (Box) => [is K a.1, is K a.2]) fun a => is K (v_cut_all a.1 a.2)) := by
  refine fokR T.fn_cut_all T.glo_cut_all (fun _ _ _ _ _ _ us hl => match us, hl with | [_, _], _ => rfl) sc_cut_all (fun _ => rfl) fun cdv A outer s H E hr a hp => ?_
  obtain ⟨states, box⟩ := a
  have nd := sc_cut_all.nd
  have hp : p_cut_all states box := hp
  show SXs _ _ (as (G0 [is K states, is K box] _) none) _ _ _ (retV (is K (v_cut_all states box)))
  have hp : states.length ≤ 1000 := hp
  cases box with
  | none =>
    refine sx_ifx (d := true) (t_isNo (x := (none : Option Box)) (x_var 1 rfl)) (fun _ => ?_) (fun h => nomatch h)
    exact sx_last (sx_retD (x_lstL T.free_list (xs_cons (x_var 0 rfl) xs_nil)) rfl)
  | some b =>
    refine sx_ifx (d := false) (t_isNo (x := (some b : Option Box)) (x_var 1 rfl)) (fun h => nomatch h) (fun _ => ?_)
    refine sx_cons (sx_new (α := State) 2 nd) ?_
    refine sx_forU (ι := Unit) states (fun _ _ => [(4, none)]) (fun k _ => some (ownL _ 2 ((states.take k).filterMap fun s => cutS s b))) (fun _ _ => True) () (i_L (x_var 0 rfl)) trivial (by walk_at "gle") rfl (fun k _ a ha _ => ?_) (fun _ _ => ?_)
    · refine ⟨_, [3], g_name 3 nd, own_ninL (by decide), ?_⟩
      have hl := fm_len (f := fun s => cutS s b) (l := states) (k := k)
      have e := fm_succ (f := fun s => cutS s b) ha
      refine sx_cons (sx_set 4 nd (c_cut T (hr.mono (by decide)) (xs_cons (x_var 3 rfl) (xs_cons (x_some (x_var 1 rfl)) xs_nil)))) ?_
      unfold v_cut
      generalize cutS a b = z at e ⊢
      cases z with
      | none =>
        refine sx_last (sx_ifF (t_notNo (x := (none : Option State)) (x_var 4 rfl)) rfl ?_)
        refine sx_endU () trivial (by walk_at "gle") ?_
        rw [e, List.append_nil]
      | some y =>
        refine sx_last (sx_ifT (t_notNo (x := (some y : Option State)) (x_var 4 rfl)) rfl ?_)
        refine sx_cons (sx_append (x_some (x_var 4 rfl)) (Nat.le_trans hl hp)) (sx_endU () trivial (by walk_at "gle") ?_)
        rw [e]
    · rw [List.take_length]
      refine sx_freeze ?_
      exact sx_last (sx_retD (x_var 2 rfl) rfl)
theorem c_cut_all {X : Cx} {Γ : Gm} {o : Option Own} {e1 e2 : Expr} {p pos : Pos} {states : List (State)} {box : Option (Box)} (T : Tx X.w X.K X.mg) (hr : Room 4 X.A) (h : PAX X [e1, e2] Γ o [is X.K states, is X.K box]) (hp : p_cut_all states box) (hg : Gl X "cut_all" := by rfl) (he : starEach [e1, e2] X.env = (false, eval e1 X.env) :: starEach [e2] X.env := by rfl) (hpl : (backTo pos (starEach [e2] X.env)).any (·.1) = false := by rfl) : PX X (.Call (.Name "cut_all" p) [e1, e2] [] pos) Γ o (is X.K (v_cut_all states box)) := x_callF (ok_cut_all T) hr (states, box) hp h rfl hg (by decide) he hpl
theorem stepL_none {b : Body} {push : Box} {drift : Int} : ∀ {l : List State} {k : Nat} {a : State}, l[k]? = some a → stepS b a push drift = none → stepL b push drift l = none
  | [], k, a, h, _ => by simp at h
  | s :: l, 0, a, h, e => by
    have h : s = a := by simpa using h
    subst h
    unfold stepL
    rw [e]
  | s :: l, k + 1, a, h, e => by
    unfold stepL
    rw [stepL_none (l := l) (k := k) (by simpa using h) e]
    split <;> rfl
theorem stepL_succ {b : Body} {push : Box} {drift : Int} : ∀ {l r : List State} {k : Nat} {a x : State}, l[k]? = some a → stepL b push drift (l.take k) = some r → stepS b a push drift = some x → stepL b push drift (l.take (k + 1)) = some (r ++ [x])
  | [], r, k, a, x, h, _, _ => by simp at h
  | s :: l, r, 0, a, x, h, e, f => by
    have h : s = a := by simpa using h
    subst h
    have e : r = [] := by
      have e : some [] = some r := e
      exact (Option.some.inj e).symm
    subst e
    show (match stepS b s push drift with | none => none | some x => (stepL b push drift []).map (x :: ·)) = _
    rw [f]
    rfl
  | s :: l, r, k + 1, a, x, h, e, f => by
    have e : (match stepS b s push drift with | none => none | some x => (stepL b push drift (l.take k)).map (x :: ·)) = some r := e
    show (match stepS b s push drift with | none => none | some x => (stepL b push drift (l.take (k + 1))).map (x :: ·)) = _
    cases q : stepS b s push drift with
    | none => rw [q] at e; cases e
    | some y =>
      rw [q] at e
      dsimp only at e ⊢
      cases q2 : stepL b push drift (l.take k) with
      | none => rw [q2] at e; cases e
      | some r' =>
        rw [q2] at e
        have e : y :: r' = r := Option.some.inj e
        subst e
        rw [stepL_succ (by simpa using h) q2 f]
        rfl
theorem sc_step_all : FnScope ["body", "craft", "moment", "push", "states", "state", "later"] ["body", "craft", "moment"] (defScope st_step_all) := ⟨rfl, rfl, rfl, by decide +kernel, rfl, by decide +kernel, by decide +kernel⟩
abbrev v_step_all (body_ : Body) (craft : Craft) (moment : Moment) : Option (List (State)) := stepAll body_ craft moment
def p_step_all (body_ : Body) (craft : Craft) (moment : Moment) : Prop := BOk body_ ∧ (∀ s ∈ moment.states, SOk s) ∧ moment.states.length ≤ 1000
theorem ok_step_all {P : Program} {w : World} {K : Fg} {mg : Str → Option Value} {base : Heap} (T : Tx w K mg) : Fok P w K mg base 5 "step_all" ["body", "craft", "moment"] (spF (fun a : Body × Craft × Moment => p_step_all a.1 a.2.1 a.2.2) (fun a : Body × Craft × Moment => [is K a.1, is K a.2.1, is K a.2.2]) fun a => is K (v_step_all a.1 a.2.1 a.2.2)) := by
  refine fokR T.fn_step_all T.glo_step_all (fun _ _ _ _ _ _ us hl => match us, hl with | [_, _, _], _ => rfl) sc_step_all (fun _ => rfl) fun cdv A outer s H E hr a hp => ?_
  obtain ⟨body_, craft, moment⟩ := a
  have nd := sc_step_all.nd
  have hp : p_step_all body_ craft moment := hp
  show SXs _ _ (as (G0 [is K body_, is K craft, is K moment] _) none) _ _ _ (retV (is K (v_step_all body_ craft moment)))
  obtain ⟨hb, hs, hl⟩ := hp
  refine sx_cons (sx_set 3 nd (c_push_at T (hr.mono (by decide)) (xs_cons (x_var 1 rfl) (xs_cons (f_Moment_at T (x_var 2 rfl)) xs_nil)))) ?_
  refine sx_cons (sx_new (α := State) 4 nd) ?_
  refine sx_forU (ι := List State) moment.states (fun _ _ => [(6, none)]) (fun _ r => some (ownL _ 4 r)) (fun k r => stepL body_ (pushAt craft moment.at_) craft.drift (moment.states.take k) = some r) [] (i_L (f_Moment_states T (x_var 2 rfl))) rfl (by walk_at "gle") rfl (fun k r a ha hk => ?_) (fun r hk => ?_)
  · refine ⟨_, [5], g_name 5 nd, own_ninL (by decide), ?_⟩
    have ok := hs a (List.mem_of_getElem? ha)
    refine sx_cons (sx_set 6 nd (c_step T (hr.mono (by decide)) (xs_cons (x_var 0 rfl) (xs_cons (x_var 5 rfl) (xs_cons (x_var 3 rfl) (xs_cons (f_Craft_drift T (x_var 1 rfl)) xs_nil)))) ⟨ok.pv, ok.pb, hb.mu, hb.ob⟩)) ?_
    unfold v_step v_push_at
    have e0 := fun z => stepL_none (b := body_) (push := pushAt craft moment.at_) (drift := craft.drift) ha z
    have e1 := fun x z => stepL_succ (b := body_) (push := pushAt craft moment.at_) (drift := craft.drift) (x := x) ha hk z
    generalize stepS body_ a (pushAt craft moment.at_) craft.drift = z at e0 e1 ⊢
    cases z with
    | none =>
      refine sx_ifx (d := true) (t_isNo (x := (none : Option State)) (x_var 6 rfl)) (fun _ => ?_) (fun h => nomatch h)
      exact sx_last (sx_retNo x_non (e0 rfl).symm)
    | some y =>
      refine sx_ifx (d := false) (t_isNo (x := (some y : Option State)) (x_var 6 rfl)) (fun h => nomatch h) (fun _ => ?_)
      have hlen : r.length ≤ 1000 := by
        rw [stepL_len hk, List.length_take]
        omega
      exact sx_cons (sx_append (x_some (x_var 6 rfl)) hlen) (sx_endU (r ++ [y]) (e1 y rfl) (by walk_at "gle") rfl)
  · rw [List.take_length] at hk
    refine sx_freeze ?_
    exact sx_last (sx_retS (x_var 4 rfl) hk.symm)
theorem c_step_all {X : Cx} {Γ : Gm} {o : Option Own} {e1 e2 e3 : Expr} {p pos : Pos} {body_ : Body} {craft : Craft} {moment : Moment} (T : Tx X.w X.K X.mg) (hr : Room 5 X.A) (h : PAX X [e1, e2, e3] Γ o [is X.K body_, is X.K craft, is X.K moment]) (hp : p_step_all body_ craft moment) (hg : Gl X "step_all" := by rfl) (he : starEach [e1, e2, e3] X.env = (false, eval e1 X.env) :: starEach [e2, e3] X.env := by rfl) (hpl : (backTo pos (starEach [e2, e3] X.env)).any (·.1) = false := by rfl) : PX X (.Call (.Name "step_all" p) [e1, e2, e3] [] pos) Γ o (is X.K (v_step_all body_ craft moment)) := x_callF (ok_step_all T) hr (body_, craft, moment) hp h rfl hg (by decide) he hpl
theorem sc_first_states : FnScope ["fineness", "craft"] ["fineness", "craft"] (defScope st_first_states) := ⟨rfl, rfl, rfl, by decide +kernel, rfl, by decide +kernel, by decide +kernel⟩
abbrev v_first_states (fineness : Int) (craft : Craft) : List (State) := firstStates fineness craft
def p_first_states (fineness : Int) (craft : Craft) : Prop := 0 ≤ fineness ∧ fineness ≤ 6
theorem ok_first_states {P : Program} {w : World} {K : Fg} {mg : Str → Option Value} {base : Heap} (T : Tx w K mg) : Fok P w K mg base 5 "first_states" ["fineness", "craft"] (spF (fun a : Int × Craft => p_first_states a.1 a.2) (fun a : Int × Craft => [is K a.1, is K a.2]) fun a => is K (v_first_states a.1 a.2)) := by
  refine fokR T.fn_first_states T.glo_first_states (fun _ _ _ _ _ _ us hl => match us, hl with | [_, _], _ => rfl) sc_first_states (fun _ => rfl) fun cdv A outer s H E hr a hp => ?_
  obtain ⟨fineness, craft⟩ := a
  have nd := sc_first_states.nd
  have hp : p_first_states fineness craft := hp
  show SXs _ _ (as (G0 [is K fineness, is K craft] _) none) _ _ _ (retV (is K (v_first_states fineness craft)))
  exact sx_last (sx_retD (c_cut_all T (hr.mono (by decide)) (xs_cons (c_parts_of T (hr.mono (by decide)) (xs_cons (c_State T (hr.mono (by decide)) (xs_cons (f_Craft_place T (x_var 1 rfl)) (xs_cons (f_Craft_speed T (x_var 1 rfl)) xs_nil))) (xs_cons (x_var 0 rfl) xs_nil)) hp) (xs_cons (c_sighting_at T (hr.mono (by decide)) (xs_cons (x_var 1 rfl) (xs_cons (f_Craft_start T (x_var 1 rfl)) xs_nil))) xs_nil)) (Nat.le_trans (parts_len6 _ (by have := hp.2; omega)) (by decide))) rfl)
theorem c_first_states {X : Cx} {Γ : Gm} {o : Option Own} {e1 e2 : Expr} {p pos : Pos} {fineness : Int} {craft : Craft} (T : Tx X.w X.K X.mg) (hr : Room 5 X.A) (h : PAX X [e1, e2] Γ o [is X.K fineness, is X.K craft]) (hp : p_first_states fineness craft) (hg : Gl X "first_states" := by rfl) (he : starEach [e1, e2] X.env = (false, eval e1 X.env) :: starEach [e2] X.env := by rfl) (hpl : (backTo pos (starEach [e2] X.env)).any (·.1) = false := by rfl) : PX X (.Call (.Name "first_states" p) [e1, e2] [] pos) Γ o (is X.K (v_first_states fineness craft)) := x_callF (ok_first_states T) hr (fineness, craft) hp h rfl hg (by decide) he hpl
/-- what holds in the walk of a journey -/
structure JI (b : Body) (c : Craft) (J : Journey) (n k : Nat) (x : List Moment × Moment) : Prop where
  len : x.1.length = k + 1
  last : x.1[k]? = some x.2
  ok : MOk x.2
  go : journeyGo b c (n - k) (c.start + 1 + (k : Int)) x.1 x.2 = J
theorem JI.lost {b : Body} {c : Craft} {J : Journey} {n k : Nat} {x : List Moment × Moment} (h : JI b c J n k x) (hk : k < n) (e : stepAll b c x.2 = none) : ⟨x.1, "lost", some (c.start + 1 + (k : Int))⟩ = J := by
  have g := h.go
  have e1 : n - k = (n - (k + 1)) + 1 := by omega
  rw [e1] at g
  unfold journeyGo at g
  rw [e] at g
  exact g
theorem JI.void {b : Body} {c : Craft} {J : Journey} {n k : Nat} {x : List Moment × Moment} (h : JI b c J n k x) (hk : k < n) {st : List State} (e : stepAll b c x.2 = some st) (z : (cutAll st (sightAt c (c.start + 1 + (k : Int)))).length = 0) : ⟨x.1, "void", some (c.start + 1 + (k : Int))⟩ = J := by
  have g := h.go
  have e1 : n - k = (n - (k + 1)) + 1 := by omega
  rw [e1] at g
  unfold journeyGo at g
  rw [e] at g
  dsimp only at g
  rw [if_pos z] at g
  exact g
theorem JI.step {b : Body} {c : Craft} {J : Journey} {n k : Nat} {x : List Moment × Moment} (h : JI b c J n k x) (hc : COk c) (hk : k < n) {st : List State} (e : stepAll b c x.2 = some st) (z : ¬ (cutAll st (sightAt c (c.start + 1 + (k : Int)))).length = 0) :
    JI b c J n (k + 1) (x.1 ++ [⟨c.start + 1 + (k : Int), cutAll st (sightAt c (c.start + 1 + (k : Int)))⟩], ⟨c.start + 1 + (k : Int), cutAll st (sightAt c (c.start + 1 + (k : Int)))⟩) := by
  have g := h.go
  have e1 : n - k = (n - (k + 1)) + 1 := by omega
  rw [e1] at g
  unfold journeyGo at g
  rw [e] at g
  dsimp only at g
  rw [if_neg z] at g
  have e2 : c.start + 1 + ((k + 1 : Nat) : Int) = c.start + 1 + (k : Int) + 1 := by omega
  refine ⟨by rw [List.length_append, h.len]; rfl, ?_, ⟨cutAll_ok hc (stepAll_ok hc h.ok.ok e) _, ?_, Nat.pos_of_ne_zero z⟩, by rw [e2]; exact g⟩
  · rw [List.getElem?_append_right (by rw [h.len]; exact Nat.le_refl _), h.len, Nat.sub_self]
    rfl
  · have h1 : (cutAll st (sightAt c (c.start + 1 + (k : Int)))).length ≤ st.length := cutAll_len
    have h2 : st.length = x.2.states.length := stepL_len e
    have h3 := h.ok.len
    show (cutAll st (sightAt c (c.start + 1 + (k : Int)))).length ≤ 64
    omega
theorem JI.done {b : Body} {c : Craft} {J : Journey} {n : Nat} {x : List Moment × Moment} (h : JI b c J n n x) : ⟨x.1, "whole", none⟩ = J := by
  have g := h.go
  rw [Nat.sub_self] at g
  exact g
theorem first_len {fine : Int} {c : Craft} (h : fine ≤ 6) : (firstStates fine c).length ≤ 64 := Nat.le_trans cutAll_len (parts_len6 _ (by omega))
theorem ixN_last {n : Nat} : ixN (n + 1) (-1) = some n := by
  unfold ixN
  rw [if_neg (by decide), if_pos (by omega)]
  congr 1
  omega
theorem sc_journey : FnScope ["body", "fineness", "craft", "until", "moments", "states", "at"] ["body", "fineness", "craft", "until"] (defScope st_journey) := ⟨rfl, rfl, rfl, by decide +kernel, rfl, by decide +kernel, by decide +kernel⟩
abbrev v_journey (body_ : Body) (fineness : Int) (craft : Craft) (until_ : Int) : Journey := journey body_ fineness craft until_
def p_journey (body_ : Body) (fineness : Int) (craft : Craft) (until_ : Int) : Prop := BOk body_ ∧ (0 ≤ fineness ∧ fineness ≤ 6) ∧ COk craft ∧ (0 ≤ craft.start ∧ craft.start ≤ 2 ^ 40) ∧ (-(2 ^ 40) ≤ until_ ∧ until_ ≤ craft.start + 500)
theorem ok_journey {P : Program} {w : World} {K : Fg} {mg : Str → Option Value} {base : Heap} (T : Tx w K mg) : Fok P w K mg base 6 "journey" ["body", "fineness", "craft", "until"] (spF (fun a : Body × Int × Craft × Int => p_journey a.1 a.2.1 a.2.2.1 a.2.2.2) (fun a : Body × Int × Craft × Int => [is K a.1, is K a.2.1, is K a.2.2.1, is K a.2.2.2]) fun a => is K (v_journey a.1 a.2.1 a.2.2.1 a.2.2.2)) := by
  refine fokR T.fn_journey T.glo_journey (fun _ _ _ _ _ _ us hl => match us, hl with | [_, _, _, _], _ => rfl) sc_journey (fun _ => rfl) fun cdv A outer s H E hr a hp => ?_
  obtain ⟨body_, fineness, craft, until_⟩ := a
  have nd := sc_journey.nd
  have hp : p_journey body_ fineness craft until_ := hp
  show SXs _ _ (as (G0 [is K body_, is K fineness, is K craft, is K until_] _) none) _ _ _ (retV (is K (v_journey body_ fineness craft until_)))
  obtain ⟨hb, hf, hc, hs, hu⟩ := hp
  have ev : v_journey body_ fineness craft until_ = journey body_ fineness craft until_ := rfl
  unfold journey at ev
  refine sx_cons (sx_new (α := Moment) 4 nd) ?_
  refine sx_ifx (t_lt (x_var 3 rfl) (f_Craft_start T (x_var 2 rfl))) (fun h => ?_) (fun h => ?_)
  · rw [if_pos (of_decide_eq_true h)] at ev
    refine sx_freeze ?_
    exact sx_last (sx_retD (c_Journey T (hr.mono (by decide)) (xs_cons (x_var 4 rfl) (xs_cons x_str (xs_cons (x_optN x_non) xs_nil)))) ev.symm)
  · rw [if_neg (of_decide_eq_false h)] at ev
    refine sx_cons (sx_set 5 nd (c_first_states T (hr.mono (by decide)) (xs_cons (x_var 1 rfl) (xs_cons (x_var 2 rfl) xs_nil)) hf)) ?_
    refine sx_ifx (t_eq (x_lenL T.free_len (xs_cons (x_var 5 rfl) xs_nil)) x_int) (fun h2 => ?_) (fun h2 => ?_)
    · have z : (firstStates fineness craft).length = 0 := by have := of_decide_eq_true h2; exact Int.ofNat.inj this
      rw [if_pos z] at ev
      refine sx_freeze ?_
      exact sx_last (sx_retD (c_Journey T (hr.mono (by decide)) (xs_cons (x_var 4 rfl) (xs_cons x_str (xs_cons (x_opt (f_Craft_start T (x_var 2 rfl))) xs_nil)))) ev.symm)
    · have z : ¬ (firstStates fineness craft).length = 0 := fun q => of_decide_eq_false h2 (congrArg Int.ofNat q)
      rw [if_neg z] at ev
      refine sx_cons (sx_append (c_Moment T (hr.mono (by decide)) (xs_cons (f_Craft_start T (x_var 2 rfl)) (xs_cons (x_var 5 rfl) xs_nil))) (Nat.zero_le _)) ?_
      have en : (until_ + 1 - (craft.start + 1)).toNat = (until_ - craft.start).toNat := by omega
      have hn : (until_ + 1 - (craft.start + 1)).toNat ≤ 500 := by omega
      rw [← en] at ev
      generalize hN : (until_ + 1 - (craft.start + 1)).toNat = n at ev hn
      refine sx_forU (ι := List Moment × Moment) (rngL (craft.start + 1) (until_ + 1 - (craft.start + 1)).toNat) (fun _ _ => [(5, none)]) (fun _ x => some (ownL _ 4 x.1)) (fun k x => JI body_ craft (v_journey body_ fineness craft until_) n k x) ([⟨craft.start, firstStates fineness craft⟩], ⟨craft.start, firstStates fineness craft⟩) (i_rng2 T.free_range (xs_cons (x_add (f_Craft_start T (x_var 2 rfl)) x_int) (xs_cons (x_add (x_var 3 rfl) x_int) xs_nil)) (by omega)) ?_ (by walk_at "gle") rfl (fun k x a ha hx => ?_) (fun x hx => ?_)
      · refine ⟨rfl, rfl, ⟨first_ok hc fineness, first_len hf.2, Nat.pos_of_ne_zero z⟩, ?_⟩
        rw [ev]
        show journeyGo body_ craft (n - 0) (craft.start + 1 + 0) _ _ = _
        rw [Int.add_zero]
        rfl
      · obtain ⟨hk, rfl⟩ := rngL_get ha
        rw [hN] at hk
        obtain ⟨ms, cur⟩ := x
        have hml : ms.length = k + 1 := hx.len
        have hmc : ms[k]? = some cur := hx.last
        refine ⟨_, [6], g_name 6 nd, own_ninL (by decide), ?_⟩
        refine sx_cons (sx_set 5 nd (c_step_all T (hr.mono (by decide)) (xs_cons (x_var 0 rfl) (xs_cons (x_var 2 rfl) (xs_cons (x_oix (n := k) (x_neg x_int) (by rw [hml]; exact ixN_last) hmc) xs_nil))) ⟨hb, hx.ok.ok, Nat.le_trans hx.ok.len (by decide)⟩)) ?_
        unfold v_step_all
        have el := hx.lost hk
        have ew := fun st e => hx.void (st := st) hk e
        have es := fun st e => hx.step (st := st) hc hk e
        have eo := fun st e => Nat.le_of_eq (stepL_len (b := body_) (push := pushAt craft cur.at_) (drift := craft.drift) (l := cur.states) (r := st) e)
        have e0 := hx.ok.len
        change ∀ st, stepAll body_ craft cur = some st → _ at eo
        generalize stepAll body_ craft cur = r at el ew es eo ⊢
        dsimp only at el ew es
        cases r with
        | none =>
          refine sx_ifx (d := true) (t_isNo (x := (none : Option (List State))) (x_var 5 rfl)) (fun _ => ?_) (fun h => nomatch h)
          refine sx_freeze ?_
          exact sx_last (sx_retD (c_Journey T (hr.mono (by decide)) (xs_cons (x_var 4 rfl) (xs_cons x_str (xs_cons (x_opt (x_var 6 rfl)) xs_nil)))) (el rfl))
        | some st =>
          refine sx_ifx (d := false) (t_isNo (x := (some st : Option (List State))) (x_var 5 rfl)) (fun h => nomatch h) (fun _ => ?_)
          have ho := eo st rfl
          refine sx_cons (sx_set 5 nd (c_cut_all T (hr.mono (by decide)) (xs_cons (x_some (x_var 5 rfl)) (xs_cons (c_sighting_at T (hr.mono (by decide)) (xs_cons (x_var 2 rfl) (xs_cons (x_var 6 rfl) xs_nil))) xs_nil)) (show st.length ≤ 1000 by dsimp only at e0; omega))) ?_
          refine sx_ifx (t_eq (x_lenL T.free_len (xs_cons (x_var 5 rfl) xs_nil)) x_int) (fun h2 => ?_) (fun h2 => ?_)
          · have z2 : (cutAll st (sightAt craft (craft.start + 1 + (k : Int)))).length = 0 := by have := of_decide_eq_true h2; exact Int.ofNat.inj this
            refine sx_freeze ?_
            exact sx_last (sx_retD (c_Journey T (hr.mono (by decide)) (xs_cons (x_var 4 rfl) (xs_cons x_str (xs_cons (x_opt (x_var 6 rfl)) xs_nil)))) (ew st rfl z2))
          · have z2 : ¬ (cutAll st (sightAt craft (craft.start + 1 + (k : Int)))).length = 0 := fun q => of_decide_eq_false h2 (congrArg Int.ofNat q)
            refine sx_cons (sx_append (c_Moment T (hr.mono (by decide)) (xs_cons (x_var 6 rfl) (xs_cons (x_var 5 rfl) xs_nil))) (show ms.length ≤ 1000 by omega)) ?_
            exact sx_endU _ (es st rfl z2) (by walk_at "gle") rfl
      · rw [rngL_len, hN] at hx
        refine sx_freeze ?_
        exact sx_last (sx_retD (c_Journey T (hr.mono (by decide)) (xs_cons (x_var 4 rfl) (xs_cons x_str (xs_cons (x_optN x_non) xs_nil)))) hx.done)
theorem c_journey {X : Cx} {Γ : Gm} {o : Option Own} {e1 e2 e3 e4 : Expr} {p pos : Pos} {body_ : Body} {fineness : Int} {craft : Craft} {until_ : Int} (T : Tx X.w X.K X.mg) (hr : Room 6 X.A) (h : PAX X [e1, e2, e3, e4] Γ o [is X.K body_, is X.K fineness, is X.K craft, is X.K until_]) (hp : p_journey body_ fineness craft until_) (hg : Gl X "journey" := by rfl) (he : starEach [e1, e2, e3, e4] X.env = (false, eval e1 X.env) :: starEach [e2, e3, e4] X.env := by rfl) (hpl : (backTo pos (starEach [e2, e3, e4] X.env)).any (·.1) = false := by rfl) : PX X (.Call (.Name "journey" p) [e1, e2, e3, e4] [] pos) Γ o (is X.K (v_journey body_ fineness craft until_)) := x_callF (ok_journey T) hr (body_, fineness, craft, until_) hp h rfl hg (by decide) he hpl
end Or
set_option maxHeartbeats 400000
/-! Journeys' moments; what is within bounds in a meeting. -/
namespace Or
open PySem L2 L3
structure MK (f : Nat) (m : Moment) : Prop where
  ok : ∀ s ∈ m.states, SOk s
  len : m.states.length ≤ 2 ^ f
  pos : 0 < m.states.length
theorem journeyGo_mem {b : Body} {c : Craft} (hc : COk c) {f : Nat} : ∀ (n : Nat) (t : Int) (ms : List Moment) (cur : Moment), (∀ m ∈ ms, MK f m) → MK f cur → ∀ m ∈ (journeyGo b c n t ms cur).moments, MK f m
  | 0, t, ms, cur, h, g => h
  | n + 1, t, ms, cur, h, g => by
    unfold journeyGo
    split
    · exact h
    · rename_i st e
      split
      · exact h
      · rename_i z
        have k : MK f ⟨t, cutAll st (sightAt c t)⟩ := ⟨cutAll_ok hc (stepAll_ok hc g.ok e) _, by
          have h1 : (cutAll st (sightAt c t)).length ≤ st.length := cutAll_len
          have h2 : st.length = cur.states.length := stepL_len e
          have h3 := g.len
          show (cutAll st (sightAt c t)).length ≤ 2 ^ f
          omega, Nat.pos_of_ne_zero z⟩
        refine journeyGo_mem hc n _ _ _ (fun m hm => ?_) k
        rcases List.mem_append.mp hm with hm | hm
        · exact h m hm
        · have e : m = _ := List.mem_singleton.mp hm
          rw [e]
          exact k
theorem journey_mem {b : Body} {fine u : Int} {c : Craft} (hc : COk c) : ∀ m ∈ (journey b fine c u).moments, MK fine.toNat m := by
  unfold journey
  split
  · intro m h; cases h
  · split
    · intro m h; cases h
    · rename_i z
      have k : MK fine.toNat ⟨c.start, firstStates fine c⟩ := ⟨first_ok hc fine, Nat.le_trans cutAll_len (parts_len _ _), Nat.pos_of_ne_zero z⟩
      refine journeyGo_mem hc _ _ _ _ (fun m hm => ?_) k
      have e : m = _ := List.mem_singleton.mp hm
      rw [e]
      exact k
theorem at_mem {j : Journey} {t : Int} {m : Moment} (h : j.at_ t = some m) : m ∈ j.moments := List.mem_of_find?_eq_some h
/-! squares within bounds -/
structure QOk (q : Iv) : Prop where
  a0 : 0 ≤ q.a
  b0 : 0 ≤ q.b
  aB : Sm 4000 q.a
  bB : Sm 4000 q.b
theorem QOk.hull {p q : Iv} (h : QOk p) (g : QOk q) : QOk (Iv.hull p q) := ⟨by have := h.a0; have := g.a0; show 0 ≤ min p.a q.a; omega, by have := h.b0; have := g.b0; show 0 ≤ max p.b q.b; omega, h.aB.min g.aB, h.bB.max g.bB⟩
theorem square_hi (a : Iv) : 0 ≤ (Iv.square a).b := by
  unfold Iv.square
  have h1 := sq_nn a.a
  have h2 := sq_nn a.b
  split
  · exact h2
  · split
    · exact h1
    · show 0 ≤ max (a.a * a.a) (a.b * a.b)
      omega
theorem sqlen_hi (x : Box) : 0 ≤ (Box.sqlen x).b := by
  have h1 := square_hi x.a
  have h2 := square_hi x.b
  have h3 := square_hi x.c
  show 0 ≤ (Iv.square x.a).b + (Iv.square x.b).b + (Iv.square x.c).b
  omega
theorem BB.sub {n : Nat} {x y : Box} (h : BB n x) (g : BB n y) : BB (n + 1) (Box.sub x y) := ⟨h.1.sub g.1, h.2.1.sub g.2.1, h.2.2.sub g.2.2⟩
theorem sq_ok {x y : State} (h : SOk x) (g : SOk y) : QOk (Box.sqlen (Box.sub x.place y.place)) := by
  have b : BI (141 + 141 + 2) (Box.sqlen (Box.sub x.place y.place)) := (h.pb.sub g.pb).sqlen
  exact ⟨sqlen_lo _, sqlen_hi _, b.1.mono (by decide), b.2.mono (by decide)⟩
theorem gapL_ok {a b : List State} (ha : ∀ s ∈ a, SOk s) (hb : ∀ s ∈ b, SOk s) : ∀ q ∈ gapL a b, QOk q := by
  intro q h
  obtain ⟨x, hx, h⟩ := List.mem_flatMap.mp h
  obtain ⟨y, hy, rfl⟩ := List.mem_map.mp h
  exact sq_ok (ha x hx) (hb y hy)
theorem hulls_ok : ∀ (l : List Iv) (q : Iv), QOk q → (∀ p ∈ l, QOk p) → QOk (l.foldl Iv.hull q)
  | [], q, h, _ => h
  | p :: l, q, h, g => hulls_ok l _ (h.hull (g p List.mem_cons_self)) fun r hr => g r (List.mem_cons_of_mem _ hr)
theorem headD_mem {α : Type} {l : List α} {d : α} (h : 0 < l.length) : l.headD d ∈ l := by
  cases l with
  | nil => cases h
  | cons a l => exact List.mem_cons_self
theorem gapL_len {b : List State} : ∀ {a : List State}, (gapL a b).length = a.length * b.length
  | [] => by simp [gapL]
  | x :: a => by
    have e := gapL_len (a := a) (b := b)
    unfold gapL at e ⊢
    rw [List.flatMap_cons, List.length_append, e, List.length_map, List.length_cons, Nat.succ_mul, Nat.add_comm]
theorem gapL_pos {a b : List State} (ha : 0 < a.length) (hb : 0 < b.length) : 0 < (gapL a b).length := by
  rw [gapL_len]
  exact Nat.mul_pos ha hb
theorem gap_ok {f : Nat} {a b : Moment} (h : MK f a) (g : MK f b) : QOk (gap a b) := hulls_ok _ _ (gapL_ok h.ok g.ok _ (headD_mem (gapL_pos h.pos g.pos))) (gapL_ok h.ok g.ok)
theorem isq_nn (n : Int) : 0 ≤ isq n := Int.natCast_nonneg _
/-! words -/
theorem verdict_cases (s : Iv) (d : Int) : verdictOf s d = "impossible" ∨ verdictOf s d = "certain" ∨ verdictOf s d = "possible" := by
  unfold verdictOf
  split
  · exact .inl rfl
  · split
    · exact .inr (.inl rfl)
    · exact .inr (.inr rfl)
theorem broken_cases (a b : Journey) (t : Int) : brokenWord a b t = "void" ∨ brokenWord a b t = "unknown" := by
  unfold brokenWord
  split
  · exact .inl rfl
  · exact .inr rfl
def isGap (v : Str) : Prop := v = "impossible" ∨ v = "certain" ∨ v = "possible"
def isWord (v : Str) : Prop := v = "void" ∨ v = "unknown"
theorem word_gap {v : Str} (h : isWord v) (g : isGap v) : False := by
  rcases h with h | h <;> subst h <;> rcases g with g | g | g <;> exact absurd g (by decide)
structure ROk (r : Row) : Prop where
  q : ∀ q, r.sq = some q → QOk q
  w : r.sq = none → isWord r.wd
structure SpOk (s : Span) : Prop where
  q : ∀ q, s.sq = some q → QOk q ∧ isGap s.v
  w : s.sq = none → isWord s.v
end Or
set_option maxHeartbeats 400000
namespace Or
open PySem PySem.Spec PyProof.Rows L2 L3
local macro_rules | `(tactic| walk_at "gle") => `(tactic| (repeat (first | exact GLe.nil | refine GLe.keep ?_ | refine GLe.drop ?_)))
theorem sc_Journey_moment : FnScope ["self", "at", "each"] ["self", "at"] (defScope st_Journey_moment) := ⟨rfl, rfl, rfl, by decide +kernel, rfl, by decide +kernel, by decide +kernel⟩
theorem ok_Journey_moment {P : Program} {w : World} {K : Fg} {mg : Str → Option Value} {base : Heap} (T : Tx w K mg) : ∃ fd, FnOk P w K mg base CX0 1 (He.ma K (He.ga K "Journey") "moment") fd ["self", "at"] (spF (fun _ : Journey × Int => True) (fun a : Journey × Int => [is K a.1, is K a.2]) fun a => is K (a.1.at_ a.2)) ∧ Binds K fd ["self", "at"] [] := by
  obtain ⟨fd, F⟩ := T.fn_Journey_moment
  refine ⟨fd, fn_okR F sc_Journey_moment (fun _ => rfl) fun cdv A outer s H E hr a hp => ?_, F.bindsN (fun _ _ _ _ _ _ us hl => match us, hl with | [_, _], _ => rfl)⟩
  obtain ⟨j, t⟩ := a
  have nd := sc_Journey_moment.nd
  show SXs _ _ (as (G0 [is K j, is K t] _) none) _ _ _ (retV (is K (j.at_ t)))
  refine sx_forS 2 nd j.moments (fun k => ∀ (i : Nat) (z : Moment), i < k → j.moments[i]? = some z → decide (z.at_ = t) = false) (i_L (f_Journey_moments T (x_var 0 rfl))) (fun j z h => absurd h (Nat.not_lt_zero j)) (fun k a ha hk => ?_) (fun hk => ?_)
  · refine sx_ifx (t_eq (f_Moment_at T (x_var 2 rfl)) (x_var 1 rfl)) (fun h => ?_) (fun h => ?_)
    · exact sx_last (sx_retS (x_var 2 rfl) (find_at (p := fun m : Moment => decide (m.at_ = t)) ha h hk).symm)
    · refine sx_endS1 ?_ rfl
      intro i z hj hz
      rcases Nat.lt_succ_iff_lt_or_eq.mp hj with hj | hj
      · exact hk i z hj hz
      · subst hj
        rw [ha] at hz
        cases hz
        exact h
  · exact sx_last (sx_retNo x_non (find_no (p := fun m : Moment => decide (m.at_ = t)) fun i z hz => hk i z (List.getElem?_eq_some_iff.mp hz).1 hz).symm)
theorem c_Journey_moment {X : Cx} {Γ : Gm} {o : Option Own} {e e1 : Expr} {apos pos : Pos} {j : Journey} {t : Int} (T : Tx X.w X.K X.mg) (hr : Room 1 X.A) (ho : PX X e Γ o (is X.K j)) (h : PAX X [e1] Γ o [is X.K t]) {pl : Sem Bool}
    (ht : eval (.Call (.Attribute e "moment" apos) [e1] [] pos) X.env = (do
      let ov ← eval e X.env
      standAt apos.atName
      let (f, first) ← holding [ov] (getMethod ov "moment" pl)
      callWith pos f first (backTo pos (starEach [e1] X.env)) (backToKw pos (keywordEach [] X.env))) := by rfl)
    (hpl : (backTo pos (starEach [] X.env)).any (·.1) = false := by rfl) (he : starEach [e1] X.env = (false, eval e1 X.env) :: starEach [] X.env := by rfl) : PX X (.Call (.Attribute e "moment" apos) [e1] [] pos) Γ o (is X.K (j.at_ t)) :=
  let ⟨fd, F, b⟩ := ok_Journey_moment T
  x_meth T.cls_Journey T.meth_Journey_moment F hr b (by rfl) (j, t) trivial ho h rfl ht hpl he
theorem fml_succ {α β : Type} {f : α → List β} {l : List α} {k : Nat} {a : α} (h : l[k]? = some a) : (l.take (k + 1)).flatMap f = (l.take k).flatMap f ++ f a := by
  rw [List.take_succ, h, List.flatMap_append]
  simp
theorem map_succ' {α β : Type} {f : α → β} {l : List α} {k : Nat} {a : α} (h : l[k]? = some a) : (l.take (k + 1)).map f = (l.take k).map f ++ [f a] := by
  rw [List.take_succ, h, List.map_append]
  rfl
theorem foldl_succ' {α β : Type} {f : β → α → β} {b : β} {l : List α} {k : Nat} {a : α} (h : l[k]? = some a) : (l.take (k + 1)).foldl f b = f ((l.take k).foldl f b) a := by
  rw [List.take_succ, h, List.foldl_append]
  rfl
theorem gapL_succ {a b : List State} {k : Nat} {x : State} (h : a[k]? = some x) : gapL (a.take (k + 1)) b = gapL (a.take k) b ++ b.map fun y => Box.sqlen (Box.sub x.place y.place) := by
  unfold gapL
  exact fml_succ h
theorem sc_gap : FnScope ["first", "second", "gaps", "one", "other", "whole", "each"] ["first", "second"] (defScope st_gap) := ⟨rfl, rfl, rfl, by decide +kernel, rfl, by decide +kernel, by decide +kernel⟩
abbrev v_gap (first : Moment) (second : Moment) : Iv := gap first second
def p_gap (first : Moment) (second : Moment) : Prop := MK 2 first ∧ MK 2 second
theorem ok_gap {P : Program} {w : World} {K : Fg} {mg : Str → Option Value} {base : Heap} (T : Tx w K mg) : Fok P w K mg base 3 "gap" ["first", "second"] (spF (fun a : Moment × Moment => p_gap a.1 a.2) (fun a : Moment × Moment => [is K a.1, is K a.2]) fun a => is K (v_gap a.1 a.2)) := by
  refine fokR T.fn_gap T.glo_gap (fun _ _ _ _ _ _ us hl => match us, hl with | [_, _], _ => rfl) sc_gap (fun _ => rfl) fun cdv A outer s H E hr a hp => ?_
  obtain ⟨first, second⟩ := a
  have nd := sc_gap.nd
  have hp : p_gap first second := hp
  show SXs _ _ (as (G0 [is K first, is K second] _) none) _ _ _ (retV (is K (v_gap first second)))
  obtain ⟨h1, h2⟩ := hp
  have l1 : first.states.length ≤ 4 := h1.len
  have l2 : second.states.length ≤ 4 := h2.len
  refine sx_cons (sx_new (α := Iv) 2 nd) ?_
  refine sx_forU (ι := Unit) first.states (fun _ _ => [(4, none)]) (fun k _ => some (ownL _ 2 (gapL (first.states.take k) second.states))) (fun _ _ => True) () (i_L (f_Moment_states T (x_var 0 rfl))) trivial (by walk_at "gle") rfl (fun k _ a ha _ => ?_) (fun _ _ => ?_)
  · have hk := (List.getElem?_eq_some_iff.mp ha).1
    refine ⟨_, [3], g_name 3 nd, own_ninL (by decide), ?_⟩
    have l3 : (gapL (first.states.take k) second.states).length ≤ 16 := by
      rw [gapL_len, List.length_take]
      exact Nat.mul_le_mul (Nat.le_trans (Nat.min_le_right _ _) l1) l2
    refine sx_forU (ι := Unit) second.states (fun _ _ => []) (fun j _ => some (ownL K 2 (gapL (first.states.take k) second.states ++ (second.states.take j).map fun y => Box.sqlen (Box.sub a.place y.place)))) (fun _ _ => True) () (i_L (f_Moment_states T (x_var 1 rfl))) trivial (by walk_at "gle") ?_ (fun j _ b hb _ => ?_) (fun _ _ => ?_)
    · show _ = some (ownL K 2 (gapL (first.states.take k) second.states ++ []))
      rw [List.append_nil]
      rfl
    · refine ⟨_, [4], g_name 4 nd, own_ninL (by decide), ?_⟩
      have oa := h1.ok a (List.mem_of_getElem? ha)
      have ob := h2.ok b (List.mem_of_getElem? hb)
      refine sx_cons (sx_append (c_square_length T (hr.mono (by decide)) (xs_cons (c_box_subtract T (hr.mono (by decide)) (xs_cons (f_State_place T (x_var 3 rfl)) (xs_cons (f_State_place T (x_var 4 rfl)) xs_nil))) xs_nil) ((oa.pb.sub ob.pb).mono (by decide))) ?_) (sx_endU () trivial (by walk_at "gle") ?_)
      · rw [List.length_append, List.length_map, List.length_take]
        omega
      · rw [map_succ' hb, ← List.append_assoc]
        rfl
    · rw [List.take_length]
      refine sx_endU () trivial (by walk_at "gle") ?_
      have e := gapL_succ (b := second.states) ha
      rw [e]
      rfl
  · rw [List.take_length]
    refine sx_freeze ?_
    have hpos := gapL_pos h1.pos h2.pos
    have ev : v_gap first second = (gapL first.states second.states).foldl Iv.hull ((gapL first.states second.states).headD ⟨0, 0⟩) := rfl
    have hh : (gapL first.states second.states)[0]? = some ((gapL first.states second.states).headD ⟨0, 0⟩) := by
      generalize gapL first.states second.states = l at hpos ⊢
      cases l with
      | nil => cases hpos
      | cons a l => rfl
    generalize gapL first.states second.states = l at hpos ev hh ⊢
    refine sx_cons (sx_set 5 nd (xLv (x_var 2 rfl) x_int (ixN_nat hpos) hh)) ?_
    generalize l.headD ⟨0, 0⟩ = q at ev
    refine sx_forU (ι := Unit) l (fun k _ => [(5, some (is _ ((l.take k).foldl Iv.hull q)))]) (fun _ _ => none) (fun _ _ => True) () (i_L (x_var 2 rfl)) trivial (by walk_at "gle") rfl (fun k _ a ha _ => ?_) (fun _ _ => ?_)
    · refine ⟨_, [6], g_name 6 nd, no_own, ?_⟩
      refine sx_cons (sx_set 5 nd (c_hull T (hr.mono (by decide)) (xs_cons (x_var 5 rfl) (xs_cons (x_var 6 rfl) xs_nil)))) (sx_endU () trivial ?_ rfl)
      rw [foldl_succ' ha]
      walk_at "gle"
    · rw [List.take_length]
      exact sx_last (sx_retD (x_var 5 rfl) ev.symm)
theorem c_gap {X : Cx} {Γ : Gm} {o : Option Own} {e1 e2 : Expr} {p pos : Pos} {first : Moment} {second : Moment} (T : Tx X.w X.K X.mg) (hr : Room 3 X.A) (h : PAX X [e1, e2] Γ o [is X.K first, is X.K second]) (hp : p_gap first second) (hg : Gl X "gap" := by rfl) (he : starEach [e1, e2] X.env = (false, eval e1 X.env) :: starEach [e2] X.env := by rfl) (hpl : (backTo pos (starEach [e2] X.env)).any (·.1) = false := by rfl) : PX X (.Call (.Name "gap" p) [e1, e2] [] pos) Γ o (is X.K (v_gap first second)) := x_callF (ok_gap T) hr (first, second) hp h rfl hg (by decide) he hpl
theorem sc_root_up : FnScope ["n", "r"] ["n"] (defScope st_root_up) := ⟨rfl, rfl, rfl, by decide +kernel, rfl, by decide +kernel, by decide +kernel⟩
abbrev v_root_up (n : Int) : Int := rootUp n
def p_root_up (n : Int) : Prop := 0 ≤ n ∧ Sm 4000 n
theorem ok_root_up {P : Program} {w : World} {K : Fg} {mg : Str → Option Value} {base : Heap} (T : Tx w K mg) : Fok P w K mg base 1 "root_up" ["n"] (spF (fun a : Int => p_root_up a) (fun a : Int => [is K a]) fun a => is K (v_root_up a)) := by
  refine fokR T.fn_root_up T.glo_root_up (fun _ _ _ _ _ _ us hl => match us, hl with | [_], _ => rfl) sc_root_up (fun _ => rfl) fun cdv A outer s H E hr n hp => ?_
  have nd := sc_root_up.nd
  have hp : p_root_up n := hp
  show SXs _ _ (as (G0 [is K n] _) none) _ _ _ (retV (is K (v_root_up n)))
  obtain ⟨h0, h1⟩ := hp
  have hi : Sm 4000 (isq n) := Sm.isq h0 h1
  have ev : v_root_up n = rootUp n := rfl
  unfold rootUp at ev
  refine sx_cons (sx_set 1 nd (x_isqrt T.isq (xs_cons (x_var 0 rfl) xs_nil) h0 (h1.mono (by decide)))) ?_
  refine sx_ifx (t_eq (x_mul (x_var 1 rfl) (x_var 1 rfl) (hi.mulW hi)) (x_var 0 rfl)) (fun h => ?_) (fun h => ?_)
  · rw [if_pos (of_decide_eq_true h)] at ev
    exact sx_last (sx_retD (x_var 1 rfl) ev.symm)
  · rw [if_neg (of_decide_eq_false h)] at ev
    exact sx_last (sx_retD (x_add (x_var 1 rfl) x_int) ev.symm)
theorem c_root_up {X : Cx} {Γ : Gm} {o : Option Own} {e1 : Expr} {p pos : Pos} {n : Int} (T : Tx X.w X.K X.mg) (hr : Room 1 X.A) (h : PAX X [e1] Γ o [is X.K n]) (hp : p_root_up n) (hg : Gl X "root_up" := by rfl) (he : starEach [e1] X.env = (false, eval e1 X.env) :: starEach [] X.env := by rfl) (hpl : (backTo pos (starEach [] X.env)).any (·.1) = false := by rfl) : PX X (.Call (.Name "root_up" p) [e1] [] pos) Γ o (is X.K (v_root_up n)) := x_callF (ok_root_up T) hr (n) hp h rfl hg (by decide) he hpl
theorem sc_verdict_of : FnScope ["squares", "distance"] ["squares", "distance"] (defScope st_verdict_of) := ⟨rfl, rfl, rfl, by decide +kernel, rfl, by decide +kernel, by decide +kernel⟩
abbrev v_verdict_of (squares : Iv) (distance : Int) : Str := verdictOf squares distance
def p_verdict_of (squares : Iv) (distance : Int) : Prop := Sm 100 distance
theorem ok_verdict_of {P : Program} {w : World} {K : Fg} {mg : Str → Option Value} {base : Heap} (T : Tx w K mg) : Fok P w K mg base 1 "verdict_of" ["squares", "distance"] (spF (fun a : Iv × Int => p_verdict_of a.1 a.2) (fun a : Iv × Int => [is K a.1, is K a.2]) fun a => is K (v_verdict_of a.1 a.2)) := by
  refine fokR T.fn_verdict_of T.glo_verdict_of (fun _ _ _ _ _ _ us hl => match us, hl with | [_, _], _ => rfl) sc_verdict_of (fun _ => rfl) fun cdv A outer s H E hr a hp => ?_
  obtain ⟨squares, distance⟩ := a
  have nd := sc_verdict_of.nd
  have hp : p_verdict_of squares distance := hp
  show SXs _ _ (as (G0 [is K squares, is K distance] _) none) _ _ _ (retV (is K (v_verdict_of squares distance)))
  have hp : Sm 100 distance := hp
  have ev : v_verdict_of squares distance = verdictOf squares distance := rfl
  unfold verdictOf at ev
  refine sx_ifx (t_gt (x2a (x_var 0 rfl)) (x_mul (x_var 1 rfl) (x_var 1 rfl) (hp.mulW hp))) (fun h => ?_) (fun h => ?_)
  · rw [if_pos (of_decide_eq_true h)] at ev
    exact sx_last (sx_retD x_str ev.symm)
  · rw [if_neg (of_decide_eq_false h)] at ev
    refine sx_ifx (t_le (x2b (x_var 0 rfl)) (x_mul (x_var 1 rfl) (x_var 1 rfl) (hp.mulW hp))) (fun h => ?_) (fun h => ?_)
    · rw [if_pos (of_decide_eq_true h)] at ev
      exact sx_last (sx_retD x_str ev.symm)
    · rw [if_neg (of_decide_eq_false h)] at ev
      exact sx_last (sx_retD x_str ev.symm)
theorem c_verdict_of {X : Cx} {Γ : Gm} {o : Option Own} {e1 e2 : Expr} {p pos : Pos} {squares : Iv} {distance : Int} (T : Tx X.w X.K X.mg) (hr : Room 1 X.A) (h : PAX X [e1, e2] Γ o [is X.K squares, is X.K distance]) (hp : p_verdict_of squares distance) (hg : Gl X "verdict_of" := by rfl) (he : starEach [e1, e2] X.env = (false, eval e1 X.env) :: starEach [e2] X.env := by rfl) (hpl : (backTo pos (starEach [e2] X.env)).any (·.1) = false := by rfl) : PX X (.Call (.Name "verdict_of" p) [e1, e2] [] pos) Γ o (is X.K (v_verdict_of squares distance)) := x_callF (ok_verdict_of T) hr (squares, distance) hp h rfl hg (by decide) he hpl
theorem sc_broken_word : FnScope ["first", "second", "at", "one"] ["first", "second", "at"] (defScope st_broken_word) := ⟨rfl, rfl, rfl, by decide +kernel, rfl, by decide +kernel, by decide +kernel⟩
abbrev v_broken_word (first : Journey) (second : Journey) (at_ : Int) : Str := brokenWord first second at_
theorem ok_broken_word {P : Program} {w : World} {K : Fg} {mg : Str → Option Value} {base : Heap} (T : Tx w K mg) : Fok P w K mg base 2 "broken_word" ["first", "second", "at"] (spF (fun a : Journey × Journey × Int => True) (fun a : Journey × Journey × Int => [is K a.1, is K a.2.1, is K a.2.2]) fun a => is K (v_broken_word a.1 a.2.1 a.2.2)) := by
  refine fokR T.fn_broken_word T.glo_broken_word (fun _ _ _ _ _ _ us hl => match us, hl with | [_, _, _], _ => rfl) sc_broken_word (fun _ => rfl) fun cdv A outer s H E hr a hp => ?_
  obtain ⟨first, second, at_⟩ := a
  have nd := sc_broken_word.nd
  show SXs _ _ (as (G0 [is K first, is K second, is K at_] _) none) _ _ _ (retV (is K (v_broken_word first second at_)))
  have ev : v_broken_word first second at_ = brokenWord first second at_ := rfl
  unfold brokenWord at ev
  refine sx_forS 3 nd [first, second] (fun k => ∀ (i : Nat) (z : Journey), i < k → [first, second][i]? = some z → brk z at_ = false) (i_L (PX.eq (x_lst (xs_cons (x_var 0 rfl) (xs_cons (x_var 1 rfl) xs_nil))) rfl)) (fun j z h => absurd h (Nat.not_lt_zero j)) (fun k a ha hk => ?_) (fun hk => ?_)
  · refine sx_ifx (t_w (w_and (t_isNo (c_Journey_moment T (hr.mono (by decide)) (x_var 3 rfl) (xs_cons (x_var 2 rfl) xs_nil))) fun _ => w_and1 (t_eqS (f_Journey_ending T (x_var 3 rfl)) x_str))) (fun h => ?_) (fun h => ?_)
    · have hb : brk a at_ = true := h
      have : (brk first at_ || brk second at_) = true := by
        have hm := List.mem_of_getElem? ha
        rcases List.mem_cons.mp hm with e | hm
        · rw [← e, hb]; rfl
        · rw [← List.mem_singleton.mp hm, hb, Bool.or_true]
      rw [this] at ev
      exact sx_last (sx_retD x_str ev.symm)
    · refine sx_endS1 ?_ rfl
      intro i z hj hz
      rcases Nat.lt_succ_iff_lt_or_eq.mp hj with hj | hj
      · exact hk i z hj hz
      · subst hj
        rw [ha] at hz
        cases hz
        exact h
  · have e1 := hk 0 first (show 0 < 2 by decide) rfl
    have e2 := hk 1 second (show 1 < 2 by decide) rfl
    rw [e1, e2] at ev
    exact sx_last (sx_retD x_str ev.symm)
theorem c_broken_word {X : Cx} {Γ : Gm} {o : Option Own} {e1 e2 e3 : Expr} {p pos : Pos} {first : Journey} {second : Journey} {at_ : Int} (T : Tx X.w X.K X.mg) (hr : Room 2 X.A) (h : PAX X [e1, e2, e3] Γ o [is X.K first, is X.K second, is X.K at_]) (hg : Gl X "broken_word" := by rfl) (he : starEach [e1, e2, e3] X.env = (false, eval e1 X.env) :: starEach [e2, e3] X.env := by rfl) (hpl : (backTo pos (starEach [e2, e3] X.env)).any (·.1) = false := by rfl) : PX X (.Call (.Name "broken_word" p) [e1, e2, e3] [] pos) Γ o (is X.K (v_broken_word first second at_)) := x_callF (ok_broken_word T) hr (first, second, at_) trivial h rfl hg (by decide) he hpl
theorem sc_ticks_of : FnScope ["contents", "first", "second", "begin", "end", "one", "other", "rows", "at", "here", "there"] ["contents", "first", "second", "begin", "end"] (defScope st_ticks_of) := ⟨rfl, rfl, rfl, by decide +kernel, rfl, by decide +kernel, by decide +kernel⟩
abbrev v_ticks_of (contents : Conts) (first : Craft) (second : Craft) (begin_ : Int) (end_ : Int) : List (Row) := ticksOf contents first second begin_ end_
def p_ticks_of (contents : Conts) (first : Craft) (second : Craft) (begin_ : Int) (end_ : Int) : Prop := BOk contents.body ∧ (0 ≤ contents.fine ∧ contents.fine ≤ 2) ∧ (COk first ∧ COk second) ∧ (0 ≤ first.start ∧ first.start ≤ 2 ^ 40) ∧ (0 ≤ second.start ∧ second.start ≤ 2 ^ 40) ∧ (-(2 ^ 40) ≤ begin_ ∧ begin_ ≤ 2 ^ 40) ∧ (-(2 ^ 40) ≤ end_ ∧ end_ ≤ first.start + 500 ∧ end_ ≤ second.start + 500)
theorem ok_ticks_of {P : Program} {w : World} {K : Fg} {mg : Str → Option Value} {base : Heap} (T : Tx w K mg) : Fok P w K mg base 7 "ticks_of" ["contents", "first", "second", "begin", "end"] (spF (fun a : Conts × Craft × Craft × Int × Int => p_ticks_of a.1 a.2.1 a.2.2.1 a.2.2.2.1 a.2.2.2.2) (fun a : Conts × Craft × Craft × Int × Int => [is K a.1, is K a.2.1, is K a.2.2.1, is K a.2.2.2.1, is K a.2.2.2.2]) fun a => is K (v_ticks_of a.1 a.2.1 a.2.2.1 a.2.2.2.1 a.2.2.2.2)) := by
  refine fokR T.fn_ticks_of T.glo_ticks_of (fun _ _ _ _ _ _ us hl => match us, hl with | [_, _, _, _, _], _ => rfl) sc_ticks_of (fun _ => rfl) fun cdv A outer s H E hr a hp => ?_
  obtain ⟨contents, first, second, begin_, end_⟩ := a
  have nd := sc_ticks_of.nd
  have hp : p_ticks_of contents first second begin_ end_ := hp
  show SXs _ _ (as (G0 [is K contents, is K first, is K second, is K begin_, is K end_] _) none) _ _ _ (retV (is K (v_ticks_of contents first second begin_ end_)))
  obtain ⟨hb, hf, ⟨c1, c2⟩, s1, s2, hg, he⟩ := hp
  have hf6 : 0 ≤ contents.fine ∧ contents.fine ≤ 6 := by omega
  have hJ := fun (c : Craft) (hc : COk c) (m : Moment) (hm : m ∈ (journey contents.body contents.fine c end_).moments) => (show MK 2 m from ⟨(journey_mem hc m hm).ok, Nat.le_trans (journey_mem hc m hm).len (Nat.pow_le_pow_right (by decide) (by omega)), (journey_mem hc m hm).pos⟩)
  have j1 := hJ first c1
  have j2 := hJ second c2
  refine sx_cons (sx_set 5 nd (c_journey T (hr.mono (by decide)) (xs_cons (f_Contents_body T (x_var 0 rfl)) (xs_cons (f_Contents_fineness T (x_var 0 rfl)) (xs_cons (x_var 1 rfl) (xs_cons (x_var 4 rfl) xs_nil)))) ⟨hb, hf6, c1, s1, he.1, he.2.1⟩)) ?_
  refine sx_cons (sx_set 6 nd (c_journey T (hr.mono (by decide)) (xs_cons (f_Contents_body T (x_var 0 rfl)) (xs_cons (f_Contents_fineness T (x_var 0 rfl)) (xs_cons (x_var 2 rfl) (xs_cons (x_var 4 rfl) xs_nil)))) ⟨hb, hf6, c2, s2, he.1, he.2.2⟩)) ?_
  have ev : v_ticks_of contents first second begin_ end_ = (List.range (end_ + 1 - lowTick first second begin_).toNat).map fun (i : Nat) => tickRow (journey contents.body contents.fine first end_) (journey contents.body contents.fine second end_) (lowTick first second begin_ + (i : Int)) := rfl
  unfold v_journey
  generalize journey contents.body contents.fine first end_ = one at j1 ev ⊢
  generalize journey contents.body contents.fine second end_ = other at j2 ev ⊢
  refine sx_cons (sx_new (α := Row) 7 nd) ?_
  have hlow : first.start ≤ lowTick first second begin_ ∧ lowTick first second begin_ ≤ 2 ^ 40 := by unfold lowTick; omega
  refine sx_forU (ι := Unit) (rngL (lowTick first second begin_) (end_ + 1 - lowTick first second begin_).toNat) (fun _ _ => [(9, none), (10, none)]) (fun k _ => some (ownL _ 7 ((rngL (lowTick first second begin_) k).map (tickRow one other)))) (fun _ _ => True) () (i_rng2 T.free_range (xs_cons (x_max3 T.free_max (xs_cons (x_var 3 rfl) (xs_cons (f_Craft_start T (x_var 1 rfl)) (xs_cons (f_Craft_start T (x_var 2 rfl)) xs_nil)))) (xs_cons (x_add (x_var 4 rfl) x_int) xs_nil)) (by omega)) trivial (by walk_at "gle") rfl (fun k _ a ha _ => ?_) (fun _ _ => ?_)
  · obtain ⟨hk, rfl⟩ := rngL_get ha
    refine ⟨_, [8], g_name 8 nd, own_ninL (by decide), ?_⟩
    generalize lowTick first second begin_ = lo at hlow hk ⊢
    have hl : ((rngL lo k).map (tickRow one other)).length ≤ 1000 := by
      rw [List.length_map, rngL_len]
      omega
    have et : (rngL lo (k + 1)).map (tickRow one other) = (rngL lo k).map (tickRow one other) ++ [tickRow one other (lo + (k : Int))] := by
      unfold rngL
      rw [List.range_succ, List.map_append, List.map_append]
      rfl
    refine sx_cons (sx_set 9 nd (c_Journey_moment T (hr.mono (by decide)) (x_var 5 rfl) (xs_cons (x_var 8 rfl) xs_nil))) ?_
    refine sx_cons (sx_set 10 nd (c_Journey_moment T (hr.mono (by decide)) (x_var 6 rfl) (xs_cons (x_var 8 rfl) xs_nil))) ?_
    have m1 := fun m (h : one.at_ (lo + (k : Int)) = some m) => j1 m (at_mem h)
    have m2 := fun m (h : other.at_ (lo + (k : Int)) = some m) => j2 m (at_mem h)
    have er : tickRow one other (lo + (k : Int)) = tickRow one other (lo + (k : Int)) := rfl
    conv at er =>
      rhs
      unfold tickRow
    generalize one.at_ (lo + (k : Int)) = x at m1 er ⊢
    generalize other.at_ (lo + (k : Int)) = y at m2 er ⊢
    refine sx_last (sx_if (t_w (w_or (t_isNo (x_var 9 rfl)) fun _ => w_or1 (t_isNo (x_var 10 rfl)))) (fun h => ?_) (fun h => ?_))
    · have er2 : tickRow one other (lo + (k : Int)) = ⟨lo + (k : Int), none, brokenWord one other (lo + (k : Int))⟩ := by
        rw [er]
        cases x with
        | none => rfl
        | some x => cases y with
          | none => rfl
          | some y => cases h
      refine sx_cons (sx_append (y := (⟨lo + (k : Int), none, brokenWord one other (lo + (k : Int))⟩ : Row)) (PX.eq (x_t3 (xs_cons (x_var 8 rfl) (xs_cons x_non (xs_cons (c_broken_word T (hr.mono (by decide)) (xs_cons (x_var 5 rfl) (xs_cons (x_var 6 rfl) (xs_cons (x_var 8 rfl) xs_nil)))) xs_nil)))) rfl) hl) (sx_endU () trivial (by walk_at "gle") ?_)
      rw [et, er2]
    · cases x with
      | none => cases h
      | some x => cases y with
        | none => cases h
        | some y =>
          have er2 : tickRow one other (lo + (k : Int)) = ⟨lo + (k : Int), some (gap x y), ""⟩ := er
          refine sx_cons (sx_append (y := (⟨lo + (k : Int), some (gap x y), ""⟩ : Row)) (PX.eq (x_t3 (xs_cons (x_var 8 rfl) (xs_cons (c_gap T (hr.mono (by decide)) (xs_cons (x_some (x_var 9 rfl)) (xs_cons (x_some (x_var 10 rfl)) xs_nil)) ⟨m1 x rfl, m2 y rfl⟩) (xs_cons x_non xs_nil)))) rfl) hl) (sx_endU () trivial (by walk_at "gle") ?_)
          rw [et, er2]
  · refine sx_freeze ?_
    refine sx_last (sx_retD (x_var 7 rfl) ?_)
    rw [ev, rngL_len]
    unfold rngL
    rw [List.map_map]
    rfl
theorem c_ticks_of {X : Cx} {Γ : Gm} {o : Option Own} {e1 e2 e3 e4 e5 : Expr} {p pos : Pos} {contents : Conts} {first : Craft} {second : Craft} {begin_ : Int} {end_ : Int} (T : Tx X.w X.K X.mg) (hr : Room 7 X.A) (h : PAX X [e1, e2, e3, e4, e5] Γ o [is X.K contents, is X.K first, is X.K second, is X.K begin_, is X.K end_]) (hp : p_ticks_of contents first second begin_ end_) (hg : Gl X "ticks_of" := by rfl) (he : starEach [e1, e2, e3, e4, e5] X.env = (false, eval e1 X.env) :: starEach [e2, e3, e4, e5] X.env := by rfl) (hpl : (backTo pos (starEach [e2, e3, e4, e5] X.env)).any (·.1) = false := by rfl) : PX X (.Call (.Name "ticks_of" p) [e1, e2, e3, e4, e5] [] pos) Γ o (is X.K (v_ticks_of contents first second begin_ end_)) := x_callF (ok_ticks_of T) hr (contents, first, second, begin_, end_) hp h rfl hg (by decide) he hpl
end Or
set_option maxHeartbeats 400000
/-! Rows and spans of a meeting. -/
namespace Or
open PySem L2 L3
theorem rv_some {r : Row} {q : Iv} {d : Int} (h : r.sq = some q) : r.verdict d = verdictOf q d := by
  unfold Row.verdict
  rw [h]
theorem rv_none {r : Row} {d : Int} (h : r.sq = none) : r.verdict d = r.wd := by
  unfold Row.verdict
  rw [h]
theorem rv_gap {r : Row} {q : Iv} {d : Int} (h : r.sq = some q) : isGap (r.verdict d) := by
  rw [rv_some h]
  exact verdict_cases q d
theorem rv_word {r : Row} (ok : ROk r) {d : Int} (h : r.sq = none) : isWord (r.verdict d) := by
  rw [rv_none h]
  exact ok.w h
/-- alike words, alike sorts -/
theorem same_sort {r : Row} {s : Span} (hr : ROk r) (hs : SpOk s) {d : Int} (e : s.v = r.verdict d) {q : Iv} (h : r.sq = some q) : ∃ p, s.sq = some p := by
  cases w : s.sq with
  | some p => exact ⟨p, rfl⟩
  | none =>
    have h1 := hs.w w
    rw [e] at h1
    exact (word_gap h1 (rv_gap h)).elim
theorem span1_ok {r : Row} (hr : ROk r) (d : Int) : SpOk ⟨r.at_, r.at_, r.verdict d, r.sq⟩ := ⟨fun q h => ⟨hr.q q h, rv_gap h⟩, fun h => rv_word hr h⟩
theorem span2_ok {r : Row} {s : Span} (hr : ROk r) (hs : SpOk s) {d : Int} (e : s.v = r.verdict d) : SpOk ⟨s.b, r.at_, r.verdict d, hullO s.sq r.sq⟩ := by
  refine ⟨fun q h => ?_, fun h => ?_⟩
  · dsimp only at h
    cases w : r.sq with
    | none =>
      rw [w] at h
      cases z : s.sq <;> rw [z] at h <;> cases h
    | some p =>
      obtain ⟨p', hp'⟩ := same_sort hr hs e w
      rw [w, hp'] at h
      cases h
      exact ⟨(hs.q p' hp').1.hull (hr.q p w), rv_gap w⟩
  · dsimp only at h
    cases w : r.sq with
    | none => exact rv_word hr w
    | some p =>
      obtain ⟨p', hp'⟩ := same_sort hr hs e w
      rw [w, hp'] at h
      cases h
theorem addRow_ok {d : Int} {l : List Span} {r : Row} (hl : ∀ s ∈ l, SpOk s) (hr : ROk r) : ∀ s ∈ addRow d l r, SpOk s := by
  intro s hs
  unfold addRow at hs
  have app : s ∈ l ++ [⟨r.at_, r.at_, r.verdict d, r.sq⟩] → SpOk s := fun h => by
    rcases List.mem_append.mp h with h | h
    · exact hl s h
    · rw [List.mem_singleton.mp h]
      exact span1_ok hr d
  split at hs
  · rename_i s0 e0
    split at hs
    · rename_i e
      rcases List.mem_or_eq_of_mem_set hs with h | h
      · exact hl s h
      · rw [h]
        exact span2_ok hr (hl s0 (List.mem_of_getLast? e0)) e
    · exact app hs
  · exact app hs
theorem addRow_len {d : Int} {l : List Span} {r : Row} : (addRow d l r).length ≤ l.length + 1 := by
  unfold addRow
  split
  · split
    · rw [List.length_set]
      omega
    · simp
  · simp
theorem spans_len {d : Int} : ∀ (rows : List Row) (l : List Span), (rows.foldl (addRow d) l).length ≤ l.length + rows.length
  | [], l => Nat.le_refl _
  | r :: rows, l => by
    have h1 := addRow_len (d := d) (l := l) (r := r)
    have h2 := spans_len (d := d) rows (addRow d l r)
    rw [List.foldl_cons, List.length_cons]
    omega
theorem spans_ok {d : Int} : ∀ (rows : List Row) (l : List Span), (∀ s ∈ l, SpOk s) → (∀ r ∈ rows, ROk r) → ∀ s ∈ rows.foldl (addRow d) l, SpOk s
  | [], l, h, _ => h
  | r :: rows, l, h, g => spans_ok rows _ (addRow_ok h (g r List.mem_cons_self)) fun z hz => g z (List.mem_cons_of_mem _ hz)
theorem tick_ok {a b : Journey} {f : Nat} (ha : ∀ m ∈ a.moments, MK f m) (hb : ∀ m ∈ b.moments, MK f m) (t : Int) : ROk (tickRow a b t) := by
  unfold tickRow
  split
  · rename_i h g e1 e2
    exact ⟨fun q e => by cases e; exact gap_ok (ha h (at_mem e1)) (hb g (at_mem e2)), fun e => by cases e⟩
  · exact ⟨fun q e => (nomatch e), fun _ => broken_cases a b t⟩
theorem ticks_ok {c : Conts} {a b : Craft} {x y : Int} (ha : COk a) (hb : COk b) : ∀ r ∈ ticksOf c a b x y, ROk r := by
  intro r h
  unfold ticksOf at h
  obtain ⟨i, _, rfl⟩ := List.mem_map.mp h
  exact tick_ok (journey_mem ha) (journey_mem hb) _
theorem ticks_len {c : Conts} {a b : Craft} {x y : Int} (h : y ≤ a.start + 500) : (ticksOf c a b x y).length ≤ 501 := by
  unfold ticksOf lowTick
  rw [List.length_map, List.length_range]
  omega
theorem last_get {α : Type} {l : List α} {s : α} (h : l.getLast? = some s) : ∃ n, l.length = n + 1 ∧ l[n]? = some s := by
  rw [List.getLast?_eq_getElem?] at h
  have hl : 0 < l.length := by
    cases l with
    | nil => simp at h
    | cons a l => simp
  exact ⟨l.length - 1, by omega, h⟩
end Or
set_option maxHeartbeats 400000
namespace Or
open PySem PySem.Spec PyProof.Rows L2 L3
local macro_rules | `(tactic| walk_at "gle") => `(tactic| (repeat (first | exact GLe.nil | refine GLe.keep ?_ | refine GLe.drop ?_)))
theorem row_is (K : Fg) (r : Row) : ∃ W, is K r = tupOf K [is K r.at_, is K r.sq, W] ∧ (r.sq = none → W = is K r.wd) := by
  obtain ⟨t, sq, w⟩ := r
  cases sq with
  | none => exact ⟨is K w, rfl, fun _ => rfl⟩
  | some q => exact ⟨is K Non.non, rfl, fun h => nomatch h⟩
theorem pg_eq {X : Cx} {tg : Expr} {P Q : MP} {Γ Γ' : Gm} {o : Option Own} {ts : List Nat} (h : P = Q) (g : PGX X tg Q Γ o Γ' ts) : PGX X tg P Γ o Γ' ts := h ▸ g
instance : NN Journey := ⟨fun K B v a h => nn_ins h⟩
theorem sc_told : FnScope ["span", "begin", "end", "verdict", "squares"] ["span"] (defScope st_told) := ⟨rfl, rfl, rfl, by decide +kernel, rfl, by decide +kernel, by decide +kernel⟩
abbrev v_told (span : Span) : Told := told span
def p_told (span : Span) : Prop := ∀ q, span.sq = some q → QOk q
theorem ok_told {P : Program} {w : World} {K : Fg} {mg : Str → Option Value} {base : Heap} (T : Tx w K mg) : Fok P w K mg base 2 "told" ["span"] (spF (fun a : Span => p_told a) (fun a : Span => [is K a]) fun a => is K (v_told a)) := by
  refine fokR T.fn_told T.glo_told (fun _ _ _ _ _ _ us hl => match us, hl with | [_], _ => rfl) sc_told (fun _ => rfl) fun cdv A outer s H E hr span hp => ?_
  have nd := sc_told.nd
  have hp : p_told span := hp
  show SXs _ _ (as (G0 [is K span] _) none) _ _ _ (retV (is K (v_told span)))
  have hp : ∀ q, span.sq = some q → QOk q := hp
  obtain ⟨sb, se, sv, sq⟩ := span
  have ev : v_told ⟨sb, se, sv, sq⟩ = ⟨sb, se, sv, sq.map fun q => isq q.a, sq.map fun q => rootUp q.b⟩ := rfl
  refine sx_cons (sx_asg (P := tupOf _ [is _ sb, is _ se, is _ sv, is _ sq]) (PX.eq (x_var 0 rfl) rfl) (g_tup rfl (gs_cons (g_name 1 nd) (gs_cons (g_name 2 nd) (gs_cons (g_name 3 nd) (gs_cons (g_name 4 nd) gs_nil)))) rfl) no_own) ?_
  refine sx_ifx (t_isNo (x_var 4 rfl)) (fun h => ?_) (fun h => ?_)
  · cases sq with
    | some q => cases h
    | none => exact sx_last (sx_retD (x := (⟨sb, se, sv, none, none⟩ : Told)) (PX.eq (x_t5 (xs_cons (x_var 1 rfl) (xs_cons (x_var 2 rfl) (xs_cons (x_var 3 rfl) (xs_cons x_non (xs_cons x_non xs_nil)))))) rfl) ev.symm)
  · cases sq with
    | none => cases h
    | some q =>
      have hq := hp q rfl
      exact sx_last (sx_retD (x := (⟨sb, se, sv, some (isq q.a), some (rootUp q.b)⟩ : Told)) (PX.eq (x_t5 (xs_cons (x_var 1 rfl) (xs_cons (x_var 2 rfl) (xs_cons (x_var 3 rfl) (xs_cons (x_isqrt T.isq (xs_cons (x2a (x_some (x_var 4 rfl))) xs_nil) hq.a0 (hq.aB.mono (by decide))) (xs_cons (c_root_up T (hr.mono (by decide)) (xs_cons (x2b (x_some (x_var 4 rfl))) xs_nil) ⟨hq.b0, hq.bB⟩) xs_nil)))))) rfl) ev.symm)
theorem c_told {X : Cx} {Γ : Gm} {o : Option Own} {e1 : Expr} {p pos : Pos} {span : Span} (T : Tx X.w X.K X.mg) (hr : Room 2 X.A) (h : PAX X [e1] Γ o [is X.K span]) (hp : p_told span) (hg : Gl X "told" := by rfl) (he : starEach [e1] X.env = (false, eval e1 X.env) :: starEach [] X.env := by rfl) (hpl : (backTo pos (starEach [] X.env)).any (·.1) = false := by rfl) : PX X (.Call (.Name "told" p) [e1] [] pos) Γ o (is X.K (v_told span)) := x_callF (ok_told T) hr (span) hp h rfl hg (by decide) he hpl
theorem sc_meeting : FnScope ["contents", "first", "second", "begin", "end", "distance", "spans", "at", "squares", "word", "verdict", "before", "both", "span"] ["contents", "first", "second", "begin", "end", "distance"] (defScope st_meeting) := ⟨rfl, rfl, rfl, by decide +kernel, rfl, by decide +kernel, by decide +kernel⟩
abbrev v_meeting (contents : Conts) (first : Craft) (second : Craft) (begin_ : Int) (end_ : Int) (distance : Int) : List (Told) := meeting contents first second begin_ end_ distance
def p_meeting (contents : Conts) (first : Craft) (second : Craft) (begin_ : Int) (end_ : Int) (distance : Int) : Prop := p_ticks_of contents first second begin_ end_ ∧ Sm 100 distance
theorem ok_meeting {P : Program} {w : World} {K : Fg} {mg : Str → Option Value} {base : Heap} (T : Tx w K mg) : Fok P w K mg base 8 "meeting" ["contents", "first", "second", "begin", "end", "distance"] (spF (fun a : Conts × Craft × Craft × Int × Int × Int => p_meeting a.1 a.2.1 a.2.2.1 a.2.2.2.1 a.2.2.2.2.1 a.2.2.2.2.2) (fun a : Conts × Craft × Craft × Int × Int × Int => [is K a.1, is K a.2.1, is K a.2.2.1, is K a.2.2.2.1, is K a.2.2.2.2.1, is K a.2.2.2.2.2]) fun a => is K (v_meeting a.1 a.2.1 a.2.2.1 a.2.2.2.1 a.2.2.2.2.1 a.2.2.2.2.2)) := by
  refine fokR T.fn_meeting T.glo_meeting (fun _ _ _ _ _ _ us hl => match us, hl with | [_, _, _, _, _, _], _ => rfl) sc_meeting (fun _ => rfl) fun cdv A outer s H E hr a hp => ?_
  obtain ⟨contents, first, second, begin_, end_, distance⟩ := a
  have nd := sc_meeting.nd
  have hp : p_meeting contents first second begin_ end_ distance := hp
  show SXs _ _ (as (G0 [is K contents, is K first, is K second, is K begin_, is K end_, is K distance] _) none) _ _ _ (retV (is K (v_meeting contents first second begin_ end_ distance)))
  obtain ⟨ht, hd⟩ := hp
  have ok := ticks_ok (c := contents) (x := begin_) (y := end_) ht.2.2.1.1 ht.2.2.1.2
  have ln := ticks_len (c := contents) (b := second) (x := begin_) ht.2.2.2.2.2.2.2.1
  have ev : v_meeting contents first second begin_ end_ distance = (spansOf distance (ticksOf contents first second begin_ end_)).map told := rfl
  refine sx_cons (sx_new (α := Span) 6 nd) ?_
  refine sx_forU (ι := Unit) (ticksOf contents first second begin_ end_) (fun _ _ => []) (fun k _ => some (ownL K 6 (spansOf distance ((ticksOf contents first second begin_ end_).take k)))) (fun _ _ => True) () (i_L (c_ticks_of T (hr.mono (by decide)) (xs_cons (x_var 0 rfl) (xs_cons (x_var 1 rfl) (xs_cons (x_var 2 rfl) (xs_cons (x_var 3 rfl) (xs_cons (x_var 4 rfl) xs_nil))))) ht)) trivial (by walk_at "gle") rfl (fun k _ a ha _ => ?_) (fun _ _ => ?_)
  · generalize ticksOf contents first second begin_ end_ = rows at ok ln ha ⊢
    have hk := (List.getElem?_eq_some_iff.mp ha).1
    have oka := ok a (List.mem_of_getElem? ha)
    have oks : ∀ s ∈ spansOf distance (rows.take k), SpOk s := spans_ok _ _ (fun s h => nomatch h) fun r hr => ok r (List.mem_of_mem_take hr)
    have lns : (spansOf distance (rows.take k)).length ≤ 1000 := by
      have h1 := spans_len (d := distance) (rows.take k) []
      rw [List.length_take] at h1
      unfold spansOf
      have h2 : ([] : List Span).length = 0 := rfl
      omega
    have et : spansOf distance (rows.take (k + 1)) = addRow distance (spansOf distance (rows.take k)) a := foldl_succ' ha
    generalize spansOf distance (rows.take k) = xs at oks lns et ⊢
    obtain ⟨W, eW, hW⟩ := row_is K a
    refine ⟨_, _, pg_eq eW (g_tup rfl (gs_cons (g_name 7 nd) (gs_cons (g_name 8 nd) (gs_cons (g_name 9 nd) gs_nil))) rfl), own_ninL (by decide), ?_⟩
    · skip
      refine sx_cons (sx_set 10 nd (x_var 9 rfl)) ?_
      refine sx_cons (M := as [some (is K contents), some (is K first), some (is K second), some (is K begin_), some (is K end_), some (is K distance), none, some (is K a.at_), some (is K a.sq), none, some (is K (a.verdict distance)), none, none, none] (some (ownL K 6 xs))) (sx_if (t_notNo (x := a.sq) (x_var 8 rfl)) (fun h => ?_) (fun h => ?_)) ?_
      · cases e : a.sq with
        | none => rw [e] at h; cases h
        | some q =>
          refine sx_cons (sx_set 10 nd (c_verdict_of T (hr.mono (by decide)) (xs_cons (x_some (PX.eq (x_var 8 rfl) rfl)) (xs_cons (x_var 5 rfl) xs_nil)) hd)) (sx_end (as_le ?_))
          rw [rv_some e]
          walk_at "gle"
      · cases e : a.sq with
        | some q => rw [e] at h; cases h
        | none =>
          rw [hW e, rv_none e]
          exact sx_end (as_le (by walk_at "gle"))
      · have eA : addRow distance xs a = addRow distance xs a := rfl
        conv at eA =>
          rhs
          unfold addRow
        cases eL : xs.getLast? with
        | none =>
          have en : xs = [] := List.getLast?_eq_none_iff.mp eL
          rw [eL] at eA
          refine sx_last (sx_ifF (t_w (w_and (d' := false) (t_gt (x_olen T.free_len) x_int) fun h => absurd (of_decide_eq_true h) (by rw [en]; decide))) (by rw [Bool.and_false]) ?_)
          refine sx_cons (sx_append (y := (⟨a.at_, a.at_, a.verdict distance, a.sq⟩ : Span)) (PX.eq (x_t4 (xs_cons (x_var 7 rfl) (xs_cons (x_var 7 rfl) (xs_cons (x_var 10 rfl) (xs_cons (x_var 8 rfl) xs_nil))))) rfl) lns) (sx_endU () trivial (by walk_at "gle") ?_)
          show _ = some (ownL K 6 (spansOf distance (rows.take (k + 1))))
          rw [et, eA]
          rfl
        | some z =>
          obtain ⟨n, hn, hz⟩ := last_get eL
          rw [eL] at eA
          have ix : ixN xs.length (-1) = some n := by rw [hn]; exact ixN_last
          have okz := oks z (List.mem_of_getElem? hz)
          refine sx_last (sx_if (t_w (w_and (t_gt (x_olen T.free_len) x_int) fun h => w_and1 (t_eqS (x4c (d := T4.mk z.b z.e z.v z.sq) (PX.eq (x_oix (x_neg x_int) ix hz) rfl)) (x_var 10 rfl)))) (fun h => ?_) (fun h => ?_))
          · have h2 : z.v = a.verdict distance := of_decide_eq_true (Bool.and_eq_true_iff.mp h).2
            dsimp only at eA
            rw [if_pos h2, hn] at eA
            refine sx_cons (sx_set 11 nd (x_oix (x_neg x_int) ix hz)) ?_
            refine sx_cons (sx_set 12 nd x_non) ?_
            refine sx_cons (M := as [some (is K contents), some (is K first), some (is K second), some (is K begin_), some (is K end_), some (is K distance), none, some (is K a.at_), some (is K a.sq), none, some (is K (a.verdict distance)), some (is K z), some (is K (hullO z.sq a.sq)), none] (some (ownL K 6 xs))) (sx_if (t_notNo (x := a.sq) (x_var 8 rfl)) (fun h => ?_) (fun h => ?_)) ?_
            · cases e : a.sq with
              | none => rw [e] at h; cases h
              | some q =>
                obtain ⟨p, hp⟩ := same_sort oka okz h2 e
                rw [hp]
                refine sx_cons (sx_set 12 nd (c_hull T (hr.mono (by decide)) (xs_cons (x4d (d := T4.mk z.b z.e z.v p) (PX.eq (x_var 11 rfl) (by show is K (T4.mk z.b z.e z.v z.sq) = _; rw [hp]; rfl))) (xs_cons (x_some (PX.eq (x_var 8 rfl) rfl)) xs_nil)))) (sx_end (as_le ?_))
                walk_at "gle"
            · cases e : a.sq with
              | some q => rw [e] at h; cases h
              | none =>
                have e2 : hullO z.sq none = none := by cases z.sq <;> rfl
                rw [e2]
                exact sx_end (as_le (by walk_at "gle"))
            · refine sx_cons (sx_oset (a := (⟨z.b, a.at_, a.verdict distance, hullO z.sq a.sq⟩ : Span)) (PX.eq (x_t4 (xs_cons (x4a (d := T4.mk z.b z.e z.v z.sq) (PX.eq (x_var 11 rfl) rfl)) (xs_cons (x_var 7 rfl) (xs_cons (x_var 10 rfl) (xs_cons (x_var 12 rfl) xs_nil))))) rfl) (x_neg x_int) ix) (sx_endU () trivial (by walk_at "gle") ?_)
              show _ = some (ownL K 6 (spansOf distance (rows.take (k + 1))))
              rw [et, eA]
              rfl
          · have h2 : ¬ z.v = a.verdict distance := fun q => by
              have h3 : (decide ((xs.length : Int) > 0) && decide (z.v = a.verdict distance)) = false := h
              rw [decide_eq_true q, Bool.and_true, hn] at h3
              have := of_decide_eq_false h3
              omega
            dsimp only at eA
            rw [if_neg h2] at eA
            refine sx_cons (sx_append (y := (⟨a.at_, a.at_, a.verdict distance, a.sq⟩ : Span)) (PX.eq (x_t4 (xs_cons (x_var 7 rfl) (xs_cons (x_var 7 rfl) (xs_cons (x_var 10 rfl) (xs_cons (x_var 8 rfl) xs_nil))))) rfl) lns) (sx_endU () trivial (by walk_at "gle") ?_)
            show _ = some (ownL K 6 (spansOf distance (rows.take (k + 1))))
            rw [et, eA]
            rfl
  · rw [List.take_length]
    have oks : ∀ s ∈ spansOf distance (ticksOf contents first second begin_ end_), SpOk s := spans_ok _ _ (fun s h => nomatch h) ok
    have lns : (spansOf distance (ticksOf contents first second begin_ end_)).length ≤ 1000 := by
      have h1 := spans_len (d := distance) (ticksOf contents first second begin_ end_) []
      unfold spansOf
      have h2 : ([] : List Span).length = 0 := rfl
      omega
    refine sx_freeze ?_
    generalize spansOf distance (ticksOf contents first second begin_ end_) = xs at oks lns ev ⊢
    refine sx_last (sx_retD (x_lc [("span", 13)] (fun _ => true) told nd (i_L (x_var 6 rfl)) lns no_own (blkOk_by (own := [("span", 13)]) (N := ["contents", "first", "second", "begin", "end", "distance", "spans", "at", "squares", "word", "verdict", "before", "both", "span"]) (sc := defScope st_meeting) (by decide +kernel)) (fun a ha => ?_)) ?_)
    · refine ⟨_, [13], by decide, fun s H C cl fp => ⟨g_name 13 nd, ts_nil, fun _ => ?_⟩⟩
      exact c_told T (hr.mono (by decide)) (xs_cons (x_var 13 rfl) xs_nil) (fun q h => ((oks a ha).q q h).1)
    · rw [filt_true]
      exact ev.symm
theorem c_meeting {X : Cx} {Γ : Gm} {o : Option Own} {e1 e2 e3 e4 e5 e6 : Expr} {p pos : Pos} {contents : Conts} {first : Craft} {second : Craft} {begin_ : Int} {end_ : Int} {distance : Int} (T : Tx X.w X.K X.mg) (hr : Room 8 X.A) (h : PAX X [e1, e2, e3, e4, e5, e6] Γ o [is X.K contents, is X.K first, is X.K second, is X.K begin_, is X.K end_, is X.K distance]) (hp : p_meeting contents first second begin_ end_ distance) (hg : Gl X "meeting" := by rfl) (he : starEach [e1, e2, e3, e4, e5, e6] X.env = (false, eval e1 X.env) :: starEach [e2, e3, e4, e5, e6] X.env := by rfl) (hpl : (backTo pos (starEach [e2, e3, e4, e5, e6] X.env)).any (·.1) = false := by rfl) : PX X (.Call (.Name "meeting" p) [e1, e2, e3, e4, e5, e6] [] pos) Γ o (is X.K (v_meeting contents first second begin_ end_ distance)) := x_callF (ok_meeting T) hr (contents, first, second, begin_, end_, distance) hp h rfl hg (by decide) he hpl
end Or
set_option maxHeartbeats 400000
namespace Or
open PySem PySem.Spec PyProof.Rows L2 L3
local macro_rules | `(tactic| walk_at "gle") => `(tactic| (repeat (first | exact GLe.nil | refine GLe.keep ?_ | refine GLe.drop ?_)))
theorem upto {α : Type} {l : List α} {p : α → Bool} {k : Nat} {a : α} (ha : l[k]? = some a) (h : p a = false) (hk : ∀ (i : Nat) (z : α), i < k → l[i]? = some z → p z = false) : ∀ (i : Nat) (z : α), i < k + 1 → l[i]? = some z → p z = false := by
  intro i z hj hz
  rcases Nat.lt_succ_iff_lt_or_eq.mp hj with hj | hj
  · exact hk i z hj hz
  · subst hj
    rw [ha] at hz
    cases hz
    exact h
theorem all_of {α : Type} {l : List α} {p : α → Bool} (hk : ∀ (i : Nat) (z : α), l[i]? = some z → p z = true) : l.all p = true := by
  rw [List.all_eq_true]
  intro x hx
  obtain ⟨j, hj, e⟩ := List.mem_iff_getElem.mp hx
  exact hk j x (by rw [List.getElem?_eq_getElem hj, e])
theorem all_no {α : Type} {l : List α} {p : α → Bool} {k : Nat} {a : α} (ha : l[k]? = some a) (h : p a = false) : l.all p = false := by
  cases e : l.all p with
  | false => rfl
  | true =>
    rw [List.all_eq_true.mp e a (List.mem_of_getElem? ha)] at h
    cases h
theorem upto1 {α : Type} {l : List α} {p : α → Bool} {k : Nat} {a : α} (ha : l[k]? = some a) (h : p a = true) (hk : ∀ (i : Nat) (z : α), i < k → l[i]? = some z → p z = true) : ∀ (i : Nat) (z : α), i < k + 1 → l[i]? = some z → p z = true := by
  intro i z hj hz
  rcases Nat.lt_succ_iff_lt_or_eq.mp hj with hj | hj
  · exact hk i z hj hz
  · subst hj
    rw [ha] at hz
    cases hz
    exact h
theorem lt_of {α : Type} {l : List α} {i : Nat} {z : α} (h : l[i]? = some z) : i < l.length := (List.getElem?_eq_some_iff.mp h).1
theorem sc_Certificate_init : FnScope ["self", "body", "fineness", "craft", "claims", "states"] ["self", "body", "fineness", "craft", "claims"] (defScope st_Certificate_init) := ⟨rfl, rfl, rfl, by decide +kernel, rfl, by decide +kernel, by decide +kernel⟩
abbrev v_Certificate (body_ : Body) (fineness : Int) (craft : Craft) (claims : List (List (State))) : Cert := ⟨body_, fineness, craft, claims⟩
def p_Certificate (body_ : Body) (fineness : Int) (craft : Craft) (claims : List (List (State))) : Prop := claims.length ≤ 1000
theorem ok_Certificate {P : Program} {w : World} {K : Fg} {mg : Str → Option Value} {base : Heap} (T : Tx w K mg) : Cok P w K mg base 1 "Certificate" ["self", "body", "fineness", "craft", "claims"] [] (spM (He.ga K "Certificate") (fun a : Body × Int × Craft × List (List (State)) => p_Certificate a.1 a.2.1 a.2.2.1 a.2.2.2) (fun a => [is K a.1, is K a.2.1, is K a.2.2.1, is K a.2.2.2]) (fun _ => []) (fun a => fCert K (v_Certificate a.1 a.2.1 a.2.2.1 a.2.2.2)) fun _ => eqv .non) := by
  refine cokR (C := "Certificate") T.fn_Certificate_init T.glo_Certificate T.mkr_Certificate (fun _ _ _ _ _ _ us hl => match us, hl with | [_, _, _, _, _], _ => rfl) sc_Certificate_init (fun _ => rfl) (by decide) fun cdv A outer s H E hr y a hp => ?_
  obtain ⟨body_, fineness, craft, claims⟩ := a
  have nd := sc_Certificate_init.nd
  have hp : p_Certificate body_ fineness craft claims := hp
  show SXs _ _ (as ((G0 (anyV :: [is K body_, is K fineness, is K craft, is K claims]) _).set 0 none) (some (ownI y (He.ga K "Certificate") 0 []))) (exA _ fun Γ => as Γ (some (ownI y (He.ga K "Certificate") 0 (fCert K (v_Certificate body_ fineness craft claims))))) _ _ _
  refine sx_cons (sx_fldN T.cls_Certificate T.noat_Certificate_body (show ("body" : Str) ∉ ([] : List Str) by decide +kernel) (x_var 1 rfl)) ?_
  refine sx_cons (sx_fldN T.cls_Certificate T.noat_Certificate_fineness (show ("fineness" : Str) ∉ (["body"] : List Str) by decide +kernel) (x_var 2 rfl)) ?_
  refine sx_cons (sx_fldN T.cls_Certificate T.noat_Certificate_craft (show ("craft" : Str) ∉ (["body", "fineness"] : List Str) by decide +kernel) (x_var 3 rfl)) ?_
  refine sx_cons (sx_fldN (P := is K claims) T.cls_Certificate T.noat_Certificate_claims (show ("claims" : Str) ∉ (["body", "fineness", "craft"] : List Str) by decide +kernel) (PX.eq (x_lc [("states", 5)] (fun _ => true) (fun s : List State => s) nd (i_L (x_var 4 rfl)) hp (own_ninI (by decide)) (blkOk_by (own := [("states", 5)]) (N := ["self", "body", "fineness", "craft", "claims", "states"]) (sc := defScope st_Certificate_init) (by decide +kernel)) (fun a ha => ⟨_, [5], by decide, fun s H C cl fp => ⟨g_name 5 nd, ts_nil, fun _ => x_lstL T.free_list (xs_cons (x_var 5 rfl) xs_nil)⟩⟩)) (congrArg (is K) (show (claims.filter fun _ => true).map (fun s : List State => s) = claims by rw [filt_true]; exact List.map_id' claims)))) ?_
  exact sx_end (exA_in _ trivial (as_own (by rfl)))
theorem c_Certificate {X : Cx} {Γ : Gm} {o : Option Own} {e1 e2 e3 e4 : Expr} {p pos : Pos} {body_ : Body} {fineness : Int} {craft : Craft} {claims : List (List (State))} (T : Tx X.w X.K X.mg) (hr : Room 2 X.A) (h : PAX X [e1, e2, e3, e4] Γ o [is X.K body_, is X.K fineness, is X.K craft, is X.K claims]) (hp : p_Certificate body_ fineness craft claims) (hg : Gl X "Certificate" := by rfl) (he : starEach [e1, e2, e3, e4] X.env = (false, eval e1 X.env) :: starEach [e2, e3, e4] X.env := by rfl) (hpl : (backTo pos (starEach [e2, e3, e4] X.env)).any (·.1) = false := by rfl) : PX X (.Call (.Name "Certificate" p) [e1, e2, e3, e4] [] pos) Γ o (is X.K (v_Certificate body_ fineness craft claims)) := x_makeC (Ds := []) (ok_Certificate T) hr trivial (body_, fineness, craft, claims) hp h rfl hg (by decide) he hpl
theorem sc_held : FnScope ["state", "states", "each"] ["state", "states"] (defScope st_held) := ⟨rfl, rfl, rfl, by decide +kernel, rfl, by decide +kernel, by decide +kernel⟩
abbrev v_held (state : State) (states : List (State)) : Bool := held state states
theorem ok_held {P : Program} {w : World} {K : Fg} {mg : Str → Option Value} {base : Heap} (T : Tx w K mg) : Fok P w K mg base 4 "held" ["state", "states"] (spF (fun a : State × List (State) => True) (fun a : State × List (State) => [is K a.1, is K a.2]) fun a => is K (v_held a.1 a.2)) := by
  refine fokR T.fn_held T.glo_held (fun _ _ _ _ _ _ us hl => match us, hl with | [_, _], _ => rfl) sc_held (fun _ => rfl) fun cdv A outer s H E hr a hp => ?_
  obtain ⟨state, states⟩ := a
  have nd := sc_held.nd
  show SXs _ _ (as (G0 [is K state, is K states] _) none) _ _ _ (retV (is K (v_held state states)))
  refine sx_forS 2 nd states (fun k => ∀ (i : Nat) (z : State), i < k → states[i]? = some z → sInside state z = false) (i_L (x_var 1 rfl)) (fun j z h => absurd h (Nat.not_lt_zero j)) (fun k a ha hk => ?_) (fun hk => ?_)
  · refine sx_ifx (t_val (c_state_inside T (hr.mono (by decide)) (xs_cons (x_var 0 rfl) (xs_cons (x_var 2 rfl) xs_nil)))) (fun h => ?_) (fun h => ?_)
    · refine sx_last (sx_retD x_bl ?_)
      exact (List.any_eq_true.mpr ⟨a, List.mem_of_getElem? ha, h⟩).symm
    · exact sx_endS1 (upto (p := fun z => sInside state z) ha h hk) rfl
  · refine sx_last (sx_retD x_bl ?_)
    refine Eq.symm (List.any_eq_false.mpr fun z hz => ?_)
    obtain ⟨j, hj, e⟩ := List.mem_iff_getElem.mp hz
    rw [hk j z hj (by rw [List.getElem?_eq_getElem hj, e])]
    exact Bool.false_ne_true
theorem c_held {X : Cx} {Γ : Gm} {o : Option Own} {e1 e2 : Expr} {p pos : Pos} {state : State} {states : List (State)} (T : Tx X.w X.K X.mg) (hr : Room 4 X.A) (h : PAX X [e1, e2] Γ o [is X.K state, is X.K states]) (hg : Gl X "held" := by rfl) (he : starEach [e1, e2] X.env = (false, eval e1 X.env) :: starEach [e2] X.env := by rfl) (hpl : (backTo pos (starEach [e2] X.env)).any (·.1) = false := by rfl) : PX X (.Call (.Name "held" p) [e1, e2] [] pos) Γ o (is X.K (v_held state states)) := x_callF (ok_held T) hr (state, states) trivial h rfl hg (by decide) he hpl
theorem sc_start_holds : FnScope ["certificate", "state"] ["certificate"] (defScope st_start_holds) := ⟨rfl, rfl, rfl, by decide +kernel, rfl, by decide +kernel, by decide +kernel⟩
abbrev v_start_holds (certificate : Cert) : Bool := startHolds certificate
def p_start_holds (certificate : Cert) : Prop := (0 ≤ certificate.fine ∧ certificate.fine ≤ 6) ∧ 0 < certificate.claims.length
theorem ok_start_holds {P : Program} {w : World} {K : Fg} {mg : Str → Option Value} {base : Heap} (T : Tx w K mg) : Fok P w K mg base 6 "start_holds" ["certificate"] (spF (fun a : Cert => p_start_holds a) (fun a : Cert => [is K a]) fun a => is K (v_start_holds a)) := by
  refine fokR T.fn_start_holds T.glo_start_holds (fun _ _ _ _ _ _ us hl => match us, hl with | [_], _ => rfl) sc_start_holds (fun _ => rfl) fun cdv A outer s H E hr certificate hp => ?_
  have nd := sc_start_holds.nd
  have hp : p_start_holds certificate := hp
  show SXs _ _ (as (G0 [is K certificate] _) none) _ _ _ (retV (is K (v_start_holds certificate)))
  obtain ⟨hf, hl⟩ := hp
  have h0 : certificate.claims[0]? = some (certificate.claims.headD []) := by
    generalize certificate.claims = l at hl
    cases l with
    | nil => cases hl
    | cons a l => rfl
  refine sx_forS 1 nd (firstStates certificate.fine certificate.craft) (fun k => ∀ (i : Nat) (z : State), i < k → (firstStates certificate.fine certificate.craft)[i]? = some z → held z (certificate.claims.headD []) = true) (i_L (c_first_states T (hr.mono (by decide)) (xs_cons (f_Certificate_fineness T (x_var 0 rfl)) (xs_cons (f_Certificate_craft T (x_var 0 rfl)) xs_nil)) hf)) (fun j z h => absurd h (Nat.not_lt_zero j)) (fun k a ha hk => ?_) (fun hk => ?_)
  · refine sx_ifx (t_not (t_val (c_held T (hr.mono (by decide)) (xs_cons (x_var 1 rfl) (xs_cons (xLv (f_Certificate_claims T (x_var 0 rfl)) x_int (ixN_nat hl) h0) xs_nil))))) (fun h => ?_) (fun h => ?_)
    · exact sx_last (sx_retD x_bl (all_no (p := fun s => held s (certificate.claims.headD [])) ha (by simpa using h)).symm)
    · exact sx_endS1 (upto1 (p := fun s => held s (certificate.claims.headD [])) ha (by simpa using h) hk) rfl
  · exact sx_last (sx_retD x_bl (all_of (p := fun s => held s (certificate.claims.headD [])) fun i z hz => hk i z (lt_of hz) hz).symm)
theorem c_start_holds {X : Cx} {Γ : Gm} {o : Option Own} {e1 : Expr} {p pos : Pos} {certificate : Cert} (T : Tx X.w X.K X.mg) (hr : Room 6 X.A) (h : PAX X [e1] Γ o [is X.K certificate]) (hp : p_start_holds certificate) (hg : Gl X "start_holds" := by rfl) (he : starEach [e1] X.env = (false, eval e1 X.env) :: starEach [] X.env := by rfl) (hpl : (backTo pos (starEach [] X.env)).any (·.1) = false := by rfl) : PX X (.Call (.Name "start_holds" p) [e1] [] pos) Γ o (is X.K (v_start_holds certificate)) := x_callF (ok_start_holds T) hr (certificate) hp h rfl hg (by decide) he hpl
def followOk (c : Cert) (at_ : Int) (later : List State) (s : State) : Bool := match stepS c.body s (pushAt c.craft at_) c.craft.drift with
  | none => false
  | some f => followHeld (sightAt c.craft (at_ + 1)) later f
theorem sc_step_holds : FnScope ["certificate", "at", "states", "later", "craft", "push", "box", "state", "following"] ["certificate", "at", "states", "later"] (defScope st_step_holds) := ⟨rfl, rfl, rfl, by decide +kernel, rfl, by decide +kernel, by decide +kernel⟩
abbrev v_step_holds (certificate : Cert) (at_ : Int) (states : List (State)) (later : List (State)) : Bool := stepHolds certificate at_ states later
def p_step_holds (certificate : Cert) (at_ : Int) (states : List (State)) (later : List (State)) : Prop := BOk certificate.body ∧ ∀ s ∈ states, SOk s
theorem ok_step_holds {P : Program} {w : World} {K : Fg} {mg : Str → Option Value} {base : Heap} (T : Tx w K mg) : Fok P w K mg base 5 "step_holds" ["certificate", "at", "states", "later"] (spF (fun a : Cert × Int × List (State) × List (State) => p_step_holds a.1 a.2.1 a.2.2.1 a.2.2.2) (fun a : Cert × Int × List (State) × List (State) => [is K a.1, is K a.2.1, is K a.2.2.1, is K a.2.2.2]) fun a => is K (v_step_holds a.1 a.2.1 a.2.2.1 a.2.2.2)) := by
  refine fokR T.fn_step_holds T.glo_step_holds (fun _ _ _ _ _ _ us hl => match us, hl with | [_, _, _, _], _ => rfl) sc_step_holds (fun _ => rfl) fun cdv A outer s H E hr a hp => ?_
  obtain ⟨certificate, at_, states, later⟩ := a
  have nd := sc_step_holds.nd
  have hp : p_step_holds certificate at_ states later := hp
  show SXs _ _ (as (G0 [is K certificate, is K at_, is K states, is K later] _) none) _ _ _ (retV (is K (v_step_holds certificate at_ states later)))
  obtain ⟨hb, hs⟩ := hp
  have ev : v_step_holds certificate at_ states later = states.all (followOk certificate at_ later) := rfl
  refine sx_cons (sx_set 4 nd (f_Certificate_craft T (x_var 0 rfl))) ?_
  refine sx_cons (sx_set 5 nd (c_push_at T (hr.mono (by decide)) (xs_cons (x_var 4 rfl) (xs_cons (x_var 1 rfl) xs_nil)))) ?_
  refine sx_cons (sx_set 6 nd (c_sighting_at T (hr.mono (by decide)) (xs_cons (x_var 4 rfl) (xs_cons (x_add (x_var 1 rfl) x_int) xs_nil)))) ?_
  refine sx_forU (ι := Unit) states (fun _ _ => []) (fun _ _ => none) (fun k _ => ∀ (i : Nat) (z : State), i < k → states[i]? = some z → followOk certificate at_ later z = true) () (i_L (x_var 2 rfl)) (fun j z h => absurd h (Nat.not_lt_zero j)) (by walk_at "gle") rfl (fun k _ a ha hk => ?_) (fun _ hk => ?_)
  · refine ⟨_, [7], g_name 7 nd, no_own, ?_⟩
    have ok := hs a (List.mem_of_getElem? ha)
    have ef : followOk certificate at_ later a = match stepS certificate.body a (pushAt certificate.craft at_) certificate.craft.drift with | none => false | some f => followHeld (sightAt certificate.craft (at_ + 1)) later f := rfl
    refine sx_cons (sx_set 8 nd (c_step T (hr.mono (by decide)) (xs_cons (f_Certificate_body T (x_var 0 rfl)) (xs_cons (x_var 7 rfl) (xs_cons (x_var 5 rfl) (xs_cons (f_Craft_drift T (x_var 4 rfl)) xs_nil)))) ⟨ok.pv, ok.pb, hb.mu, hb.ob⟩)) ?_
    unfold v_step v_push_at
    generalize stepS certificate.body a (pushAt certificate.craft at_) certificate.craft.drift = z at ef ⊢
    refine sx_ifx (t_isNo (x_var 8 rfl)) (fun h => ?_) (fun h => ?_)
    · cases z with
      | some f => cases h
      | none => exact sx_last (sx_retD x_bl (ev.trans (all_no ha ef)).symm)
    · cases z with
      | none => cases h
      | some f =>
        have ef : followOk certificate at_ later a = followHeld (sightAt certificate.craft (at_ + 1)) later f := ef
        generalize hB : sightAt certificate.craft (at_ + 1) = B at ef ⊢
        have eb : v_sighting_at certificate.craft (at_ + 1) = B := hB
        rw [eb]
        cases B with
        | none =>
          refine sx_cons (sx_ifF (t_notNo (x := (none : Option Box)) (x_var 6 rfl)) rfl sx_nil) ?_
          refine sx_ifx (t_w (w_and (t_notNo (x_var 8 rfl)) fun _ => w_and1 (t_not (t_val (c_held T (hr.mono (by decide)) (xs_cons (x_some (x_var 8 rfl)) (xs_cons (x_var 3 rfl) xs_nil))))))) (fun h => ?_) (fun h => ?_)
          · have h2 : held f later = false := by
              have h3 : (true && !held f later) = true := h
              simpa using h3
            exact sx_last (sx_retD x_bl (ev.trans (all_no ha (ef.trans h2))).symm)
          · have h2 : held f later = true := by
              have h3 : (true && !held f later) = false := h
              simpa using h3
            exact sx_endU () (upto1 ha (ef.trans h2) hk) (by walk_at "gle") rfl
        | some b =>
          refine sx_cons (sx_ifT (t_notNo (x := (some b : Option Box)) (x_var 6 rfl)) rfl (sx_last (sx_set 8 nd (c_cut T (hr.mono (by decide)) (xs_cons (x_some (x_var 8 rfl)) (xs_cons (x_some (x_var 6 rfl)) xs_nil)))))) ?_
          have ef : followOk certificate at_ later a = match cutS f b with | none => true | some g => held g later := ef
          unfold v_cut
          generalize cutS f b = y at ef ⊢
          cases y with
          | none =>
            refine sx_ifx (d := false) (t_w (w_and (d' := false) (t_notNo (x := (none : Option State)) (x_var 8 rfl)) fun h => nomatch h)) (fun h => nomatch h) (fun _ => ?_)
            exact sx_endU () (upto1 ha ef hk) (by walk_at "gle") rfl
          | some g =>
            refine sx_ifx (t_w (w_and (t_notNo (x := (some g : Option State)) (x_var 8 rfl)) fun _ => w_and1 (t_not (t_val (c_held T (hr.mono (by decide)) (xs_cons (x_some (x_var 8 rfl)) (xs_cons (x_var 3 rfl) xs_nil))))))) (fun h => ?_) (fun h => ?_)
            · have h2 : held g later = false := by
                have h3 : (true && !held g later) = true := h
                simpa using h3
              exact sx_last (sx_retD x_bl (ev.trans (all_no ha (ef.trans h2))).symm)
            · have h2 : held g later = true := by
                have h3 : (true && !held g later) = false := h
                simpa using h3
              exact sx_endU () (upto1 ha (ef.trans h2) hk) (by walk_at "gle") rfl
  · exact sx_last (sx_retD x_bl (ev.trans (all_of fun i z hz => hk i z (lt_of hz) hz)).symm)
theorem c_step_holds {X : Cx} {Γ : Gm} {o : Option Own} {e1 e2 e3 e4 : Expr} {p pos : Pos} {certificate : Cert} {at_ : Int} {states : List (State)} {later : List (State)} (T : Tx X.w X.K X.mg) (hr : Room 5 X.A) (h : PAX X [e1, e2, e3, e4] Γ o [is X.K certificate, is X.K at_, is X.K states, is X.K later]) (hp : p_step_holds certificate at_ states later) (hg : Gl X "step_holds" := by rfl) (he : starEach [e1, e2, e3, e4] X.env = (false, eval e1 X.env) :: starEach [e2, e3, e4] X.env := by rfl) (hpl : (backTo pos (starEach [e2, e3, e4] X.env)).any (·.1) = false := by rfl) : PX X (.Call (.Name "step_holds" p) [e1, e2, e3, e4] [] pos) Γ o (is X.K (v_step_holds certificate at_ states later)) := x_callF (ok_step_holds T) hr (certificate, at_, states, later) hp h rfl hg (by decide) he hpl
theorem sc_refused_at : FnScope ["certificate", "start", "claims", "k"] ["certificate"] (defScope st_refused_at) := ⟨rfl, rfl, rfl, by decide +kernel, rfl, by decide +kernel, by decide +kernel⟩
abbrev v_refused_at (certificate : Cert) : Option (Int) := refusedAt certificate
def p_refused_at (certificate : Cert) : Prop := BOk certificate.body ∧ (0 ≤ certificate.fine ∧ certificate.fine ≤ 6) ∧ (0 < certificate.claims.length ∧ certificate.claims.length ≤ 1000) ∧ ∀ l ∈ certificate.claims, ∀ s ∈ l, SOk s
theorem ok_refused_at {P : Program} {w : World} {K : Fg} {mg : Str → Option Value} {base : Heap} (T : Tx w K mg) : Fok P w K mg base 7 "refused_at" ["certificate"] (spF (fun a : Cert => p_refused_at a) (fun a : Cert => [is K a]) fun a => is K (v_refused_at a)) := by
  refine fokR T.fn_refused_at T.glo_refused_at (fun _ _ _ _ _ _ us hl => match us, hl with | [_], _ => rfl) sc_refused_at (fun _ => rfl) fun cdv A outer s H E hr certificate hp => ?_
  have nd := sc_refused_at.nd
  have hp : p_refused_at certificate := hp
  show SXs _ _ (as (G0 [is K certificate] _) none) _ _ _ (retV (is K (v_refused_at certificate)))
  obtain ⟨hb, hf, ⟨hl, hm⟩, hs⟩ := hp
  have ev : v_refused_at certificate = refusedAt certificate := rfl
  unfold refusedAt at ev
  refine sx_cons (sx_set 1 nd (f_Craft_start T (f_Certificate_craft T (x_var 0 rfl)))) ?_
  refine sx_ifx (t_not (t_val (c_start_holds T (hr.mono (by decide)) (xs_cons (x_var 0 rfl) xs_nil) ⟨hf, hl⟩))) (fun h => ?_) (fun h => ?_)
  · have h2 : ¬ startHolds certificate = true := by
      have h3 : (!startHolds certificate) = true := h
      simpa using h3
    rw [if_neg h2] at ev
    exact sx_last (sx_retS (x_var 1 rfl) ev.symm)
  · have h2 : startHolds certificate = true := by
      have h3 : (!startHolds certificate) = false := h
      simpa using h3
    rw [if_pos h2] at ev
    refine sx_cons (sx_set 2 nd (f_Certificate_claims T (x_var 0 rfl))) ?_
    obtain ⟨n, hn⟩ : ∃ n, certificate.claims.length = n + 1 := ⟨certificate.claims.length - 1, by omega⟩
    have en : ((certificate.claims.length : Int) - 1).toNat = n := by omega
    have hget : ∀ i, i < n + 1 → certificate.claims[i]? = some (certificate.claims.getD i []) := fun i hi => by
      rw [List.getD_eq_getElem?_getD, List.getElem?_eq_getElem (by omega)]
      rfl
    rw [hn, Nat.add_sub_cancel] at ev
    refine sx_forU (ι := Unit) (rngL 0 ((certificate.claims.length : Int) - 1).toNat) (fun _ _ => []) (fun _ _ => none) (fun k _ => refGo certificate certificate.claims (n - k) k = v_refused_at certificate) () (i_rng1 T.free_range (xs_cons (x_sub (x_lenL T.free_len (xs_cons (x_var 2 rfl) xs_nil)) x_int) xs_nil) (by omega)) ev.symm (by walk_at "gle") rfl (fun k _ a ha hk => ?_) (fun _ hk => ?_)
    · obtain ⟨hkn, rfl⟩ := rngL_get ha
      rw [en] at hkn
      refine ⟨_, [3], g_name 3 nd, no_own, ?_⟩
      have e1 : n - k = (n - (k + 1)) + 1 := by omega
      rw [e1] at hk
      unfold refGo at hk
      have ek : (0 : Int) + (k : Int) = (k : Int) := by omega
      have e2 : ((k : Int) + 1) = ((k + 1 : Nat) : Int) := by omega
      rw [ek]
      refine sx_ifx (t_not (t_val (c_step_holds T (hr.mono (by decide)) (xs_cons (x_var 0 rfl) (xs_cons (x_add (x_var 1 rfl) (x_var 3 rfl)) (xs_cons (xLv (x_var 2 rfl) (x_var 3 rfl) (ixN_nat (by omega)) (hget k (by omega))) (xs_cons (xLv (x_var 2 rfl) (x_add (x_var 3 rfl) x_int) (by rw [e2]; exact ixN_nat (by omega)) (hget (k + 1) (by omega))) xs_nil)))) ⟨hb, hs _ (List.mem_of_getElem? (hget k (by omega)))⟩))) (fun h => ?_) (fun h => ?_)
      · have h2 : ¬ stepHolds certificate (certificate.craft.start + (k : Int)) (certificate.claims.getD k []) (certificate.claims.getD (k + 1) []) = true := by
          have h3 : (!stepHolds certificate (certificate.craft.start + (k : Int)) (certificate.claims.getD k []) (certificate.claims.getD (k + 1) [])) = true := h
          simpa using h3
        rw [if_neg h2] at hk
        exact sx_last (sx_retS (x_add (x_add (x_var 1 rfl) (x_var 3 rfl)) x_int) hk)
      · have h2 : stepHolds certificate (certificate.craft.start + (k : Int)) (certificate.claims.getD k []) (certificate.claims.getD (k + 1) []) = true := by
          have h3 : (!stepHolds certificate (certificate.craft.start + (k : Int)) (certificate.claims.getD k []) (certificate.claims.getD (k + 1) [])) = false := h
          simpa using h3
        rw [if_pos h2] at hk
        exact sx_endU () hk (by walk_at "gle") rfl
    · rw [rngL_len, en, Nat.sub_self] at hk
      exact sx_last (sx_retNo x_non hk)
theorem c_refused_at {X : Cx} {Γ : Gm} {o : Option Own} {e1 : Expr} {p pos : Pos} {certificate : Cert} (T : Tx X.w X.K X.mg) (hr : Room 7 X.A) (h : PAX X [e1] Γ o [is X.K certificate]) (hp : p_refused_at certificate) (hg : Gl X "refused_at" := by rfl) (he : starEach [e1] X.env = (false, eval e1 X.env) :: starEach [] X.env := by rfl) (hpl : (backTo pos (starEach [] X.env)).any (·.1) = false := by rfl) : PX X (.Call (.Name "refused_at" p) [e1] [] pos) Γ o (is X.K (v_refused_at certificate)) := x_callF (ok_refused_at T) hr (certificate) hp h rfl hg (by decide) he hpl
end Or
set_option maxHeartbeats 400000
namespace Or
open PySem PySem.Spec PyProof.Rows L2 L3
local macro_rules | `(tactic| walk_at "gle") => `(tactic| (repeat (first | exact GLe.nil | refine GLe.keep ?_ | refine GLe.drop ?_)))
theorem nextL_none {b : Body} {push : Box} {drift : Int} {box : Option Box} : ∀ {l : List CRow} {k : Nat} {a : CRow}, l[k]? = some a → stepS b a.a push drift = none → nextL b push drift box l = none
  | [], k, a, h, _ => by simp at h
  | s :: l, 0, a, h, e => by
    have h : s = a := by simpa using h
    subst h
    unfold nextL
    rw [e]
  | s :: l, k + 1, a, h, e => by
    unfold nextL
    rw [nextL_none (l := l) (k := k) (by simpa using h) e]
    split <;> rfl
theorem nextL_succ {b : Body} {push : Box} {drift : Int} {box : Option Box} : ∀ {l r : List CRow} {k : Nat} {a : CRow} {f : State}, l[k]? = some a → nextL b push drift box (l.take k) = some r → stepS b a.a push drift = some f → nextL b push drift box (l.take (k + 1)) = some (r ++ followRow box a.b f)
  | [], r, k, a, f, h, _, _ => by simp at h
  | s :: l, r, 0, a, f, h, e, g => by
    have h : s = a := by simpa using h
    subst h
    have e : r = [] := by
      have e : some [] = some r := e
      exact (Option.some.inj e).symm
    subst e
    show (match stepS b s.a push drift with | none => none | some f => (nextL b push drift box []).map (followRow box s.b f ++ ·)) = _
    rw [g]
    show some (followRow box s.b f ++ []) = _
    rw [List.append_nil, List.nil_append]
  | s :: l, r, k + 1, a, f, h, e, g => by
    have e : (match stepS b s.a push drift with | none => none | some f => (nextL b push drift box (l.take k)).map (followRow box s.b f ++ ·)) = some r := e
    show (match stepS b s.a push drift with | none => none | some f => (nextL b push drift box (l.take (k + 1))).map (followRow box s.b f ++ ·)) = _
    cases q : stepS b s.a push drift with
    | none => rw [q] at e; cases e
    | some y =>
      rw [q] at e
      dsimp only at e ⊢
      cases q2 : nextL b push drift box (l.take k) with
      | none => rw [q2] at e; cases e
      | some r' =>
        rw [q2] at e
        have e : followRow box s.b y ++ r' = r := Option.some.inj e
        subst e
        rw [nextL_succ (by simpa using h) q2 g, List.append_assoc]
        rfl
theorem follow_len (box : Option Box) (d : Box) (f : State) : (followRow box d f).length ≤ 1 := by
  unfold followRow
  split
  · exact Nat.le_refl _
  · split
    · exact Nat.zero_le _
    · exact Nat.le_refl _
theorem nextL_len {b : Body} {push : Box} {drift : Int} {box : Option Box} : ∀ {l r : List CRow}, nextL b push drift box l = some r → r.length ≤ l.length
  | [], r, h => by
    cases h
    exact Nat.le_refl _
  | s :: l, r, h => by
    unfold nextL at h
    split at h
    · cases h
    · rename_i f e
      cases q : nextL b push drift box l with
      | none => rw [q] at h; cases h
      | some r' =>
        rw [q] at h
        cases h
        have h1 := nextL_len q
        have h2 := follow_len box s.b f
        rw [List.length_append, List.length_cons]
        omega
theorem follow_ok {box : Option Box} {d : Box} {f : State} (hb : ∀ x, box = some x → BB 140 x) (h : SOk f) : ∀ r ∈ followRow box d f, SOk r.a := by
  intro r m
  unfold followRow at m
  split at m
  · rw [List.mem_singleton.mp m]
    exact h
  · rename_i x
    split at m
    · cases m
    · rename_i g e
      rw [List.mem_singleton.mp m]
      exact cut_ok h (hb x rfl) e
theorem nextL_ok {b : Body} {push : Box} {drift : Int} {box : Option Box} (hp : BV push) (hd : 0 ≤ drift) (hb : ∀ x, box = some x → BB 140 x) : ∀ {l r : List CRow}, nextL b push drift box l = some r → (∀ x ∈ l, SOk x.a) → ∀ x ∈ r, SOk x.a
  | [], r, h, _ => by
    cases h
    intro x hx
    cases hx
  | s :: l, r, h, g => by
    unfold nextL at h
    split at h
    · cases h
    · rename_i f e
      cases q : nextL b push drift box l with
      | none => rw [q] at h; cases h
      | some r' =>
        rw [q] at h
        cases h
        intro x hx
        rcases List.mem_append.mp hx with hx | hx
        · exact follow_ok hb (step_ok (g s List.mem_cons_self) hp hd e) x hx
        · exact nextL_ok hp hd hb q (fun z hz => g z (List.mem_cons_of_mem _ hz)) x hx
theorem nextRows_ok {b : Body} {c : Craft} (hc : COk c) {t : Int} {rows : List CRow} (h : ∀ x ∈ rows, SOk x.a) : ∀ x ∈ (nextRows b c t rows).a, SOk x.a := by
  unfold nextRows
  split
  · intro x hx; cases hx
  · intro x hx; cases hx
  · rename_i r rs e
    exact nextL_ok (push_bv hc t) hc.dr (fun x e => sight_bb hc e) e h
theorem nextRows_len {b : Body} {c : Craft} {t : Int} {rows : List CRow} : (nextRows b c t rows).a.length ≤ rows.length := by
  unfold nextRows
  split
  · exact Nat.zero_le _
  · exact Nat.zero_le _
  · rename_i r rs e
    exact nextL_len e
theorem sc_Piece_init : FnScope ["self", "begin", "end", "parts"] ["self", "begin", "end", "parts"] (defScope st_Piece_init) := ⟨rfl, rfl, rfl, by decide +kernel, rfl, by decide +kernel, by decide +kernel⟩
abbrev v_Piece (begin_ : Int) (end_ : Int) (parts : List (Box)) : Piece := ⟨begin_, end_, ⟨parts⟩⟩
theorem ok_Piece {P : Program} {w : World} {K : Fg} {mg : Str → Option Value} {base : Heap} (T : Tx w K mg) : Cok P w K mg base 1 "Piece" ["self", "begin", "end", "parts"] [] (spM (He.ga K "Piece") (fun a : Int × Int × List (Box) => True) (fun a => [is K a.1, is K a.2.1, is K a.2.2]) (fun _ => []) (fun a => fPiece K (v_Piece a.1 a.2.1 a.2.2)) fun _ => eqv .non) := by
  refine cokR (C := "Piece") T.fn_Piece_init T.glo_Piece T.mkr_Piece (fun _ _ _ _ _ _ us hl => match us, hl with | [_, _, _, _], _ => rfl) sc_Piece_init (fun _ => rfl) (by decide) fun cdv A outer s H E hr y a hp => ?_
  obtain ⟨begin_, end_, parts⟩ := a
  have nd := sc_Piece_init.nd
  show SXs _ _ (as ((G0 (anyV :: [is K begin_, is K end_, is K parts]) _).set 0 none) (some (ownI y (He.ga K "Piece") 0 []))) (exA _ fun Γ => as Γ (some (ownI y (He.ga K "Piece") 0 (fPiece K (v_Piece begin_ end_ parts))))) _ _ _
  refine sx_cons (sx_fldN T.cls_Piece T.noat_Piece_begin (show ("begin" : Str) ∉ ([] : List Str) by decide +kernel) (x_var 1 rfl)) ?_
  refine sx_cons (sx_fldN T.cls_Piece T.noat_Piece_end (show ("end" : Str) ∉ (["begin"] : List Str) by decide +kernel) (x_var 2 rfl)) ?_
  refine sx_cons (sx_fldN T.cls_Piece T.noat_Piece_parts (show ("parts" : Str) ∉ (["begin", "end"] : List Str) by decide +kernel) (x_tupL T.free_tuple (xs_cons (x_var 3 rfl) xs_nil))) ?_
  exact sx_end (exA_in _ trivial (as_own (by rfl)))
theorem c_Piece {X : Cx} {Γ : Gm} {o : Option Own} {e1 e2 e3 : Expr} {p pos : Pos} {begin_ : Int} {end_ : Int} {parts : List (Box)} (T : Tx X.w X.K X.mg) (hr : Room 2 X.A) (h : PAX X [e1, e2, e3] Γ o [is X.K begin_, is X.K end_, is X.K parts]) (hg : Gl X "Piece" := by rfl) (he : starEach [e1, e2, e3] X.env = (false, eval e1 X.env) :: starEach [e2, e3] X.env := by rfl) (hpl : (backTo pos (starEach [e2, e3] X.env)).any (·.1) = false := by rfl) : PX X (.Call (.Name "Piece" p) [e1, e2, e3] [] pos) Γ o (is X.K (v_Piece begin_ end_ parts)) := x_makeC (Ds := []) (ok_Piece T) hr trivial (begin_, end_, parts) trivial h rfl hg (by decide) he hpl
theorem sc_Course_init : FnScope ["self", "pieces", "ending"] ["self", "pieces", "ending"] (defScope st_Course_init) := ⟨rfl, rfl, rfl, by decide +kernel, rfl, by decide +kernel, by decide +kernel⟩
abbrev v_Course (pieces : List (Piece)) (ending : Str) : Course := ⟨pieces, ending⟩
theorem ok_Course {P : Program} {w : World} {K : Fg} {mg : Str → Option Value} {base : Heap} (T : Tx w K mg) : Cok P w K mg base 1 "Course" ["self", "pieces", "ending"] [] (spM (He.ga K "Course") (fun a : List (Piece) × Str => True) (fun a => [is K a.1, is K a.2]) (fun _ => []) (fun a => fCourse K (v_Course a.1 a.2)) fun _ => eqv .non) := by
  refine cokR (C := "Course") T.fn_Course_init T.glo_Course T.mkr_Course (fun _ _ _ _ _ _ us hl => match us, hl with | [_, _, _], _ => rfl) sc_Course_init (fun _ => rfl) (by decide) fun cdv A outer s H E hr y a hp => ?_
  obtain ⟨pieces, ending⟩ := a
  have nd := sc_Course_init.nd
  show SXs _ _ (as ((G0 (anyV :: [is K pieces, is K ending]) _).set 0 none) (some (ownI y (He.ga K "Course") 0 []))) (exA _ fun Γ => as Γ (some (ownI y (He.ga K "Course") 0 (fCourse K (v_Course pieces ending))))) _ _ _
  refine sx_cons (sx_fldN T.cls_Course T.noat_Course_pieces (show ("pieces" : Str) ∉ ([] : List Str) by decide +kernel) (x_lstL T.free_list (xs_cons (x_var 1 rfl) xs_nil))) ?_
  refine sx_cons (sx_fldN T.cls_Course T.noat_Course_ending (show ("ending" : Str) ∉ (["pieces"] : List Str) by decide +kernel) (x_var 2 rfl)) ?_
  exact sx_end (exA_in _ trivial (as_own (by rfl)))
theorem c_Course {X : Cx} {Γ : Gm} {o : Option Own} {e1 e2 : Expr} {p pos : Pos} {pieces : List (Piece)} {ending : Str} (T : Tx X.w X.K X.mg) (hr : Room 2 X.A) (h : PAX X [e1, e2] Γ o [is X.K pieces, is X.K ending]) (hg : Gl X "Course" := by rfl) (he : starEach [e1, e2] X.env = (false, eval e1 X.env) :: starEach [e2] X.env := by rfl) (hpl : (backTo pos (starEach [e2] X.env)).any (·.1) = false := by rfl) : PX X (.Call (.Name "Course" p) [e1, e2] [] pos) Γ o (is X.K (v_Course pieces ending)) := x_makeC (Ds := []) (ok_Course T) hr trivial (pieces, ending) trivial h rfl hg (by decide) he hpl
theorem sc_next_rows : FnScope ["body", "craft", "at", "rows", "push", "box", "later", "state", "during", "following"] ["body", "craft", "at", "rows"] (defScope st_next_rows) := ⟨rfl, rfl, rfl, by decide +kernel, rfl, by decide +kernel, by decide +kernel⟩
abbrev v_next_rows (body_ : Body) (craft : Craft) (at_ : Int) (rows : List (CRow)) : T2 (List (CRow)) (Str) := nextRows body_ craft at_ rows
def p_next_rows (body_ : Body) (craft : Craft) (at_ : Int) (rows : List (CRow)) : Prop := BOk body_ ∧ (∀ r ∈ rows, SOk r.a) ∧ rows.length ≤ 1000
theorem ok_next_rows {P : Program} {w : World} {K : Fg} {mg : Str → Option Value} {base : Heap} (T : Tx w K mg) : Fok P w K mg base 5 "next_rows" ["body", "craft", "at", "rows"] (spF (fun a : Body × Craft × Int × List (CRow) => p_next_rows a.1 a.2.1 a.2.2.1 a.2.2.2) (fun a : Body × Craft × Int × List (CRow) => [is K a.1, is K a.2.1, is K a.2.2.1, is K a.2.2.2]) fun a => is K (v_next_rows a.1 a.2.1 a.2.2.1 a.2.2.2)) := by
  refine fokR T.fn_next_rows T.glo_next_rows (fun _ _ _ _ _ _ us hl => match us, hl with | [_, _, _, _], _ => rfl) sc_next_rows (fun _ => rfl) fun cdv A outer s H E hr a hp => ?_
  obtain ⟨body_, craft, at_, rows⟩ := a
  have nd := sc_next_rows.nd
  have hp : p_next_rows body_ craft at_ rows := hp
  show SXs _ _ (as (G0 [is K body_, is K craft, is K at_, is K rows] _) none) _ _ _ (retV (is K (v_next_rows body_ craft at_ rows)))
  obtain ⟨hb, hs, hl⟩ := hp
  have ev : v_next_rows body_ craft at_ rows = nextRows body_ craft at_ rows := rfl
  unfold nextRows at ev
  refine sx_cons (sx_set 4 nd (c_push_at T (hr.mono (by decide)) (xs_cons (x_var 1 rfl) (xs_cons (x_var 2 rfl) xs_nil)))) ?_
  refine sx_cons (sx_set 5 nd (c_sighting_at T (hr.mono (by decide)) (xs_cons (x_var 1 rfl) (xs_cons (x_add (x_var 2 rfl) x_int) xs_nil)))) ?_
  unfold v_push_at v_sighting_at
  have en : is K ([] : List CRow) = lstOf [] := rfl
  generalize pushAt craft at_ = push at ev ⊢
  generalize sightAt craft (at_ + 1) = box at ev ⊢
  refine sx_cons (sx_new (α := CRow) 6 nd) ?_
  refine sx_forU (ι := List CRow) rows (fun _ _ => []) (fun _ r => some (ownL K 6 r)) (fun k r => nextL body_ push craft.drift box (rows.take k) = some r) [] (i_L (x_var 3 rfl)) rfl (by walk_at "gle") rfl (fun k r a ha hk => ?_) (fun r hk => ?_)
  · refine ⟨_, _, g_tup (Ps := [is K a.a, is K a.b]) rfl (gs_cons (g_name 7 nd) (gs_cons (g_name 8 nd) gs_nil)) rfl, own_ninL (by decide), ?_⟩
    have ok := hs a (List.mem_of_getElem? ha)
    have hlen : r.length ≤ 1000 := by
      have h1 := nextL_len hk
      rw [List.length_take] at h1
      omega
    refine sx_cons (sx_set 9 nd (c_step T (hr.mono (by decide)) (xs_cons (x_var 0 rfl) (xs_cons (x_var 7 rfl) (xs_cons (x_var 4 rfl) (xs_cons (f_Craft_drift T (x_var 1 rfl)) xs_nil)))) ⟨ok.pv, ok.pb, hb.mu, hb.ob⟩)) ?_
    unfold v_step
    have e0 := fun z => nextL_none (b := body_) (push := push) (drift := craft.drift) (box := box) ha z
    have e1 := fun f z => nextL_succ (b := body_) (push := push) (drift := craft.drift) (box := box) (f := f) ha hk z
    generalize stepS body_ a.a push craft.drift = z at e0 e1 ⊢
    refine sx_ifx (t_isNo (x_var 9 rfl)) (fun h => ?_) (fun h => ?_)
    · cases z with
      | some f => cases h
      | none =>
        rw [e0 rfl] at ev
        exact sx_last (sx_retD (x_t2 (xs_cons (PX.eq (x_lst xs_nil) en.symm) (xs_cons x_str xs_nil))) ev.symm)
    · cases z with
      | none => cases h
      | some f =>
        have e1 := e1 f rfl
        unfold followRow at e1
        cases box with
        | none =>
          refine sx_cons (sx_ifF (t_notNo (x := (none : Option Box)) (x_var 5 rfl)) rfl sx_nil) ?_
          refine sx_last (sx_ifT (t_notNo (x_var 9 rfl)) rfl ?_)
          exact sx_cons (sx_append (x_t2 (xs_cons (x_some (x_var 9 rfl)) (xs_cons (c_box_hull T (hr.mono (by decide)) (xs_cons (x_var 8 rfl) (xs_cons (f_State_place T (x_some (x_var 9 rfl))) xs_nil))) xs_nil))) hlen) (sx_endU _ e1 (by walk_at "gle") rfl)
        | some b =>
          refine sx_cons (sx_ifT (t_notNo (x := (some b : Option Box)) (x_var 5 rfl)) rfl (sx_last (sx_set 9 nd (c_cut T (hr.mono (by decide)) (xs_cons (x_some (x_var 9 rfl)) (xs_cons (x_some (x_var 5 rfl)) xs_nil)))))) ?_
          unfold v_cut
          dsimp only at e1
          generalize cutS f b = y at e1 ⊢
          cases y with
          | none =>
            refine sx_last (sx_ifF (t_notNo (x := (none : Option State)) (x_var 9 rfl)) rfl ?_)
            dsimp only at e1
            rw [List.append_nil] at e1
            exact sx_endU _ e1 (by walk_at "gle") rfl
          | some g =>
            refine sx_last (sx_ifT (t_notNo (x := (some g : Option State)) (x_var 9 rfl)) rfl ?_)
            exact sx_cons (sx_append (x_t2 (xs_cons (x_some (x_var 9 rfl)) (xs_cons (c_box_hull T (hr.mono (by decide)) (xs_cons (x_var 8 rfl) (xs_cons (f_State_place T (x_some (x_var 9 rfl))) xs_nil))) xs_nil))) hlen) (sx_endU _ e1 (by walk_at "gle") rfl)
  · rw [List.take_length] at hk
    rw [hk] at ev
    refine sx_ifx (t_eq (x_olen T.free_len) x_int) (fun h => ?_) (fun h => ?_)
    · have hz : r = [] := List.length_eq_zero_iff.mp (Int.ofNat.inj (of_decide_eq_true h))
      rw [hz] at ev
      exact sx_last (sx_retD (x_t2 (xs_cons (PX.eq (x_lst xs_nil) en.symm) (xs_cons x_str xs_nil))) ev.symm)
    · cases r with
      | nil => exact absurd rfl (of_decide_eq_false h)
      | cons q qs =>
        refine sx_freeze ?_
        exact sx_last (sx_retD (x_t2 (xs_cons (x_var 6 rfl) (xs_cons x_str xs_nil))) ev.symm)
theorem c_next_rows {X : Cx} {Γ : Gm} {o : Option Own} {e1 e2 e3 e4 : Expr} {p pos : Pos} {body_ : Body} {craft : Craft} {at_ : Int} {rows : List (CRow)} (T : Tx X.w X.K X.mg) (hr : Room 5 X.A) (h : PAX X [e1, e2, e3, e4] Γ o [is X.K body_, is X.K craft, is X.K at_, is X.K rows]) (hp : p_next_rows body_ craft at_ rows) (hg : Gl X "next_rows" := by rfl) (he : starEach [e1, e2, e3, e4] X.env = (false, eval e1 X.env) :: starEach [e2, e3, e4] X.env := by rfl) (hpl : (backTo pos (starEach [e2, e3, e4] X.env)).any (·.1) = false := by rfl) : PX X (.Call (.Name "next_rows" p) [e1, e2, e3, e4] [] pos) Γ o (is X.K (v_next_rows body_ craft at_ rows)) := x_callF (ok_next_rows T) hr (body_, craft, at_, rows) hp h rfl hg (by decide) he hpl
structure CS where
  ps : List Piece
  rows : List CRow
  bg : Int
  t : Int
  n : Nat
/-- what holds in the walk of a course -/
structure CI (k : Conts) (c : Craft) (u : Int) (C : Course) (x : CS) : Prop where
  ok : ∀ r ∈ x.rows, SOk r.a
  len : x.rows.length ≤ 64
  go : courseGo k.body c k.stride u x.n x.ps x.rows x.bg x.t = C
  b1 : c.start ≤ x.bg
  b2 : x.bg ≤ u
  t1 : x.bg ≤ x.t
  t2 : x.t ≤ x.bg + k.stride - 1
  n1 : (x.n : Int) = u + k.stride + 1 - x.t
  pl : (x.ps.length : Int) ≤ x.t - c.start
theorem addPiece_len {ps : List Piece} {rows : List CRow} {bg st t : Int} : (addPiece ps rows bg st t).length ≤ ps.length + 1 := by
  unfold addPiece
  split
  · simp
  · exact Nat.le_succ _
theorem sc_course : FnScope ["contents", "craft", "until", "pieces", "rows", "begin", "at", "ending", "state", "during"] ["contents", "craft", "until"] (defScope st_course) := ⟨rfl, rfl, rfl, by decide +kernel, rfl, by decide +kernel, by decide +kernel⟩
abbrev v_course (contents : Conts) (craft : Craft) (until_ : Int) : Course := course contents craft until_
def p_course (contents : Conts) (craft : Craft) (until_ : Int) : Prop := BOk contents.body ∧ (0 ≤ contents.fine ∧ contents.fine ≤ 6) ∧ COk craft ∧ (1 ≤ contents.stride ∧ contents.stride ≤ 100) ∧ until_ ≤ craft.start + 500
theorem ok_course {P : Program} {w : World} {K : Fg} {mg : Str → Option Value} {base : Heap} (T : Tx w K mg) : Fok P w K mg base 6 "course" ["contents", "craft", "until"] (spF (fun a : Conts × Craft × Int => p_course a.1 a.2.1 a.2.2) (fun a : Conts × Craft × Int => [is K a.1, is K a.2.1, is K a.2.2]) fun a => is K (v_course a.1 a.2.1 a.2.2)) := by
  refine fokR T.fn_course T.glo_course (fun _ _ _ _ _ _ us hl => match us, hl with | [_, _, _], _ => rfl) sc_course (fun _ => rfl) fun cdv A outer s H E hr a hp => ?_
  obtain ⟨contents, craft, until_⟩ := a
  have nd := sc_course.nd
  have hp : p_course contents craft until_ := hp
  show SXs _ _ (as (G0 [is K contents, is K craft, is K until_] _) none) _ _ _ (retV (is K (v_course contents craft until_)))
  obtain ⟨hb, hf, hc, hs, hu⟩ := hp
  have ev : v_course contents craft until_ = course contents craft until_ := rfl
  unfold course at ev
  have hfl := first_len (c := craft) hf.2
  refine sx_cons (sx_new (α := Piece) 3 nd) ?_
  refine sx_ifx (t_lt (x_var 2 rfl) (f_Craft_start T (x_var 1 rfl))) (fun h => ?_) (fun h => ?_)
  · rw [if_pos (of_decide_eq_true h)] at ev
    refine sx_freeze ?_
    exact sx_last (sx_retD (c_Course T (hr.mono (by decide)) (xs_cons (x_var 3 rfl) (xs_cons x_str xs_nil))) ev.symm)
  · rw [if_neg (of_decide_eq_false h)] at ev
    have hlt := of_decide_eq_false h
    refine sx_cons (sx_lc 4 [("state", 8)] (fun _ => true) (fun s : State => (T2.mk s s.place : CRow)) nd (i_L (c_first_states T (hr.mono (by decide)) (xs_cons (f_Contents_fineness T (x_var 0 rfl)) (xs_cons (x_var 1 rfl) xs_nil)) hf)) (show (firstStates contents.fine craft).length ≤ 1000 by omega) (own_ninL (by decide)) (blkOk_by (own := [("state", 8)]) (N := ["contents", "craft", "until", "pieces", "rows", "begin", "at", "ending", "state", "during"]) (sc := defScope st_course) (by decide +kernel)) (fun a ha => ⟨_, [8], by decide, fun s H C cl fp => ⟨g_name 8 nd, ts_nil, fun _ => x_t2 (xs_cons (x_var 8 rfl) (xs_cons (f_State_place T (x_var 8 rfl)) xs_nil))⟩⟩) (by rfl)) ?_
    rw [filt_true]
    have er : (firstStates contents.fine craft).map (fun s : State => (T2.mk s s.place : CRow)) = startRows contents.fine craft := rfl
    unfold v_first_states
    rw [er]
    have el : (startRows contents.fine craft).length = (firstStates contents.fine craft).length := List.length_map ..
    refine sx_ifx (t_eq (x_lenL T.free_len (xs_cons (x_var 4 rfl) xs_nil)) x_int) (fun h => ?_) (fun h => ?_)
    · rw [if_pos (by rw [← el]; exact Int.ofNat.inj (of_decide_eq_true h))] at ev
      refine sx_freeze ?_
      exact sx_last (sx_retD (c_Course T (hr.mono (by decide)) (xs_cons (x_var 3 rfl) (xs_cons x_str xs_nil))) ev.symm)
    · rw [if_neg (fun q => of_decide_eq_false h (congrArg Int.ofNat (el.trans q)))] at ev
      refine sx_cons (sx_set 5 nd (f_Craft_start T (x_var 1 rfl))) ?_
      refine sx_cons (sx_set 6 nd (x_var 5 rfl)) ?_
      refine sx_last (sx_whileG (fun x : CS => [some (is K contents), some (is K craft), some (is K until_), none, some (is K x.rows), some (is K x.bg), some (is K x.t), none, none, none]) (fun x => some (ownL K 3 x.ps)) (CI contents craft until_ (v_course contents craft until_)) (fun x => x.n) (fun _ => true) ⟨[], startRows contents.fine craft, craft.start, craft.start, (until_ + contents.stride + 1 - craft.start).toNat⟩ ?_ (as_le (by walk_at "gle")) (fun x hx => t_val x_bl) (fun x hx _ => ?_) (fun x hx q => nomatch q))
      · refine ⟨fun r hr => ?_, ?_, ev.symm, ?_, ?_, ?_, ?_, ?_, ?_⟩
        · obtain ⟨s, hs, rfl⟩ := List.mem_map.mp hr
          exact first_ok hc _ s hs
        · show (startRows contents.fine craft).length ≤ 64
          omega
        all_goals first | (dsimp only; omega) | (dsimp only; simp only [List.length_nil]; omega)
      · obtain ⟨ps, rows, bg, t, n⟩ := x
        have go := hx.go
        have b1 := hx.b1
        have b2 := hx.b2
        have t1 := hx.t1
        have t2 := hx.t2
        have n1 := hx.n1
        have pl := hx.pl
        have len := hx.len
        have ok := hx.ok
        clear hx ev h hlt el
        dsimp only at go b1 b2 t1 t2 n1 pl len ok ⊢
        obtain ⟨m, rfl⟩ : ∃ m, n = m + 1 := ⟨n - 1, by omega⟩
        unfold courseGo at go
        have apl := addPiece_len (ps := ps) (rows := rows) (bg := bg) (st := contents.stride) (t := t)
        refine sx_cons (M := exA (fun _ : Unit => ¬ (t = bg + contents.stride - 1 ∧ until_ ≤ t)) fun _ => as [some (is K contents), some (is K craft), some (is K until_), none, some (is K rows), some (is K bg), some (is K t), none, none, none] (some (ownL K 3 (addPiece ps rows bg contents.stride t)))) (sx_if (t_eq (x_var 6 rfl) (x_sub (x_add (x_var 5 rfl) (f_Contents_stride T (x_var 0 rfl))) x_int)) (fun h => ?_) (fun h => ?_)) (sx_ex fun _ hne => ?_)
        · have h := of_decide_eq_true h
          have ea : addPiece ps rows bg contents.stride t = ps ++ [⟨bg, t, ⟨rows.map (·.b)⟩⟩] := if_pos h
          rw [ea] at go ⊢
          refine sx_cons (sx_append (y := (⟨bg, t, ⟨rows.map (·.b)⟩⟩ : Piece)) (PX.eq (c_Piece T (hr.mono (by decide)) (xs_cons (x_var 5 rfl) (xs_cons (x_var 6 rfl) (xs_cons (x_lc [("state", 8), ("during", 9)] (fun _ => true) (fun r : CRow => r.b) nd (i_L (x_var 4 rfl)) (show rows.length ≤ 1000 by omega) (own_ninL (by decide)) (blkOk_by (own := [("state", 8), ("during", 9)]) (N := ["contents", "craft", "until", "pieces", "rows", "begin", "at", "ending", "state", "during"]) (sc := defScope st_course) (by decide +kernel)) (fun a ha => ⟨_, [8, 9], by decide, fun s H C cl fp => ⟨g_tup (Ps := [is K a.a, is K a.b]) rfl (gs_cons (g_name 8 nd) (gs_cons (g_name 9 nd) gs_nil)) rfl, ts_nil, fun _ => x_var 9 rfl⟩⟩)) xs_nil)))) (by rw [filt_true])) (show ps.length ≤ 1000 by omega)) ?_
          refine sx_ifx (t_le (x_var 2 rfl) (x_var 6 rfl)) (fun h2 => ?_) (fun h2 => ?_)
          · rw [if_pos ⟨h, of_decide_eq_true h2⟩] at go
            refine sx_freeze ?_
            exact sx_last (sx_retD (c_Course T (hr.mono (by decide)) (xs_cons (x_var 3 rfl) (xs_cons x_str xs_nil))) go)
          · exact sx_end (exA_in () (fun q => of_decide_eq_false h2 q.2) (as_le (by walk_at "gle")))
        · have h := of_decide_eq_false h
          have ea : addPiece ps rows bg contents.stride t = ps := if_neg h
          rw [ea]
          exact sx_end (exA_in () (fun q => h q.1) (as_le (by walk_at "gle")))
        · rw [if_neg hne] at go
          have apl2 : ((addPiece ps rows bg contents.stride t).length : Int) ≤ t + 1 - craft.start := by omega
          generalize addPiece ps rows bg contents.stride t = qs at go apl2 ⊢
          have nok := nextRows_ok (b := contents.body) hc (t := t) ok
          have nlen := nextRows_len (b := contents.body) (c := craft) (t := t) (rows := rows)
          refine sx_cons (sx_asg (P := tupOf _ [is _ (nextRows contents.body craft t rows).a, is _ (nextRows contents.body craft t rows).b]) (c_next_rows T (hr.mono (by decide)) (xs_cons (f_Contents_body T (x_var 0 rfl)) (xs_cons (x_var 1 rfl) (xs_cons (x_var 6 rfl) (xs_cons (x_var 4 rfl) xs_nil)))) ⟨hb, ok, show rows.length ≤ 1000 by omega⟩) (g_tup rfl (gs_cons (g_name 4 nd) (gs_cons (g_name 7 nd) gs_nil)) rfl) (own_ninL (by decide))) ?_
          generalize nextRows contents.body craft t rows = nr at go nok nlen ⊢
          refine sx_ifx (t_neS (x_var 7 rfl) x_str) (fun h => ?_) (fun h => ?_)
          · rw [if_neg (by
              have h2 : (!decide (nr.b = "whole")) = true := h
              simpa using h2)] at go
            refine sx_freeze ?_
            exact sx_last (sx_retD (c_Course T (hr.mono (by decide)) (xs_cons (x_var 3 rfl) (xs_cons (x_var 7 rfl) xs_nil))) go)
          · rw [if_pos (by
              have h2 : (!decide (nr.b = "whole")) = false := h
              simpa using h2)] at go
            refine sx_cons (sx_set 6 nd (x_add (x_var 6 rfl) x_int)) ?_
            refine sx_last (sx_if (t_eq (x_var 6 rfl) (x_add (x_var 5 rfl) (f_Contents_stride T (x_var 0 rfl)))) (fun h => ?_) (fun h => ?_))
            · have h := of_decide_eq_true h
              rw [if_pos h] at go
              refine sx_cons (sx_set 5 nd (x_var 6 rfl)) ?_
              refine sx_cons (sx_lc 4 [("state", 8), ("during", 9)] (fun _ => true) (fun r : CRow => (T2.mk r.a r.a.place : CRow)) nd (i_L (x_var 4 rfl)) (show nr.a.length ≤ 1000 by omega) (own_ninL (by decide)) (blkOk_by (own := [("state", 8), ("during", 9)]) (N := ["contents", "craft", "until", "pieces", "rows", "begin", "at", "ending", "state", "during"]) (sc := defScope st_course) (by decide +kernel)) (fun a ha => ⟨_, [8, 9], by decide, fun s H C cl fp => ⟨g_tup (Ps := [is K a.a, is K a.b]) rfl (gs_cons (g_name 8 nd) (gs_cons (g_name 9 nd) gs_nil)) rfl, ts_nil, fun _ => x_t2 (xs_cons (x_var 8 rfl) (xs_cons (f_State_place T (x_var 8 rfl)) xs_nil))⟩⟩) (by rfl)) ?_
              rw [filt_true]
              refine sx_end (exA_in ⟨qs, restart nr.a, t + 1, t + 1, m⟩ ⟨⟨fun r hr => ?_, ?_, go, ?_, ?_, ?_, ?_, ?_, ?_⟩, Nat.lt_succ_self m⟩ (as_le (by walk_at "gle")))
              · obtain ⟨z, hz, rfl⟩ := List.mem_map.mp hr
                exact nok z hz
              · show (nr.a.map _).length ≤ 64
                rw [List.length_map]
                omega
              all_goals (dsimp only; omega)
            · have h := of_decide_eq_false h
              rw [if_neg h] at go
              refine sx_end (exA_in ⟨qs, nr.a, bg, t + 1, m⟩ ⟨⟨nok, ?_, go, ?_, ?_, ?_, ?_, ?_, ?_⟩, Nat.lt_succ_self m⟩ (as_le (by walk_at "gle")))
              all_goals (dsimp only; omega)
theorem c_course {X : Cx} {Γ : Gm} {o : Option Own} {e1 e2 e3 : Expr} {p pos : Pos} {contents : Conts} {craft : Craft} {until_ : Int} (T : Tx X.w X.K X.mg) (hr : Room 6 X.A) (h : PAX X [e1, e2, e3] Γ o [is X.K contents, is X.K craft, is X.K until_]) (hp : p_course contents craft until_) (hg : Gl X "course" := by rfl) (he : starEach [e1, e2, e3] X.env = (false, eval e1 X.env) :: starEach [e2, e3] X.env := by rfl) (hpl : (backTo pos (starEach [e2, e3] X.env)).any (·.1) = false := by rfl) : PX X (.Call (.Name "course" p) [e1, e2, e3] [] pos) Γ o (is X.K (v_course contents craft until_)) := x_callF (ok_course T) hr (contents, craft, until_) hp h rfl hg (by decide) he hpl
end Or
set_option maxHeartbeats 400000
/-! More rules: chains of three, texts walked, lists or tuples, data compared, the own object's methods, a local def called. -/
namespace L3
open PySem PySem.Spec PyProof.Rows L2 Or
/-! ### a op b op c op d -/
def tCh3 (r r' r'' : R2) (ta tb tc td : TE) : TT := fun σ H Q => ta σ H fun x H1 => tb σ H1 fun y H2 => r x y H2 fun z H3 => ∃ k, z = .bl k ∧
  (if k = true then tc σ H3 fun w H4 => r' y w H4 fun z H5 => ∃ k, z = .bl k ∧ (if k = true then td σ H5 fun v H6 => r'' w v H6 fun z H7 => ∃ k, z = .bl k ∧ Q k H7 else Q false H5) else Q false H3)
section
variable {X : Cx} {Γ : Gm} {o : Option Own} {a b c d : Expr} {pos : Pos} {i j k l : Int}
theorem pt_ch3 {ta tb tc td : TE} {op op' op'' : CmpOp} {r r' r'' : R2} (ho : OpR X (compareOp op) r) (ho' : OpR X (compareOp op') r') (ho'' : OpR X (compareOp op'') r'') (ha : PE X a ta) (hb : PE X b tb) (hc : PE X c tc) (hd : PE X d td)
    (hm : lastMarks [op, op', op''] [b, c, d] = false := by with_unfolding_all rfl) : PT X (.Compare a [op, op', op''] [b, c, d] pos) (tCh3 r r' r'' ta tb tc td) := by
  refine ⟨fun pins s σ H Q I h => ?_⟩
  refine isTrue_chain (thn (ha.run pins s σ H _ I h) fun v s1 ⟨x, H1, I1, r1, q1⟩ => test_link (thn (hb.run pins s1 σ H1 _ I1 q1) fun u s2 ⟨y, H2, I2, r2, q2⟩ =>
    thn (ho pins s2 σ H2 x y v u _ I2 r1 r2 q2) fun e s3 ⟨z, H3, I3, r3, k, ek, q3⟩ => ?_)) hm
  subst ek
  cases r3
  refine wpAny_truthy_bool ?_
  cases k with
  | false => exact ite_ff ⟨H3, I3, q3⟩
  | true =>
    refine ite_tt ?_
    show wpAny _ _ (testChain pos u [op', op''] [eval c X.env, eval d X.env]) _ _ _
    refine test_link (thn (hc.run pins s3 σ H3 _ I3 q3) fun w' s4 ⟨z', H4, I4, r4, q4⟩ => thn (ho' pins s4 σ H4 y z' u w' _ I4 r2 r4 q4) fun e' s5 ⟨z2, H5, I5, r5, k2, e2, q5⟩ => ?_)
    subst e2
    cases r5
    refine wpAny_truthy_bool ?_
    cases k2 with
    | false => exact ite_ff ⟨H5, I5, q5⟩
    | true =>
      refine ite_tt (test_last (thn (hd.run pins s5 σ H5 _ I5 q5) fun w2 s6 ⟨z3, H6, I6, r6, q6⟩ => thn (ho'' pins s6 σ H6 z' z3 w' w2 _ I6 r4 r6 q6) fun e3 s7 ⟨z4, H7, I7, r7, k3, ek3, q7⟩ => ?_))
      subst ek3
      cases r7
      exact wpAny_truthy_bool ⟨H7, I7, q7⟩
theorem t_chain3 {op op' op'' : CmpOp} {f f' f'' : Int → Int → Bool} (ho : OpR X (compareOp op) (rI0 fun i j => .bl (f i j))) (ho' : OpR X (compareOp op') (rI0 fun i j => .bl (f' i j))) (ho'' : OpR X (compareOp op'') (rI0 fun i j => .bl (f'' i j)))
    (ha : PX X a Γ o (is X.K i)) (hb : PX X b Γ o (is X.K j)) (hc : PX X c Γ o (is X.K k)) (hd : PX X d Γ o (is X.K l)) (hm : lastMarks [op, op', op''] [b, c, d] = false := by with_unfolding_all rfl) : PTX X (.Compare a [op, op', op''] [b, c, d] pos) Γ o (f i j && (f' j k && f'' k l)) := by
  obtain ⟨ta, pa, ra⟩ := ha
  obtain ⟨tb, pb, rb⟩ := hb
  obtain ⟨tc, pc, rc⟩ := hc
  obtain ⟨td, pd, rd⟩ := hd
  refine ⟨_, pt_ch3 ho ho' ho'' pa pb pc pd hm, fun σ B H Q g kk => ?_⟩
  refine ra σ B H _ g fun v B1 H1 s1 e1 => rb σ B1 H1 _ (g.stp s1) fun u B2 H2 s2 e2 => ?_
  refine ⟨i, j, e1, e2, _, rfl, ?_⟩
  cases q : f i j with
  | false => exact iteF (by rw [q] at kk; exact kk B2 H2 (s1.trans s2))
  | true =>
    refine iteT ?_
    refine rc σ B2 H2 _ ((g.stp s1).stp s2) fun w B3 H3 s3 e3 => ⟨j, k, e2, e3, _, rfl, ?_⟩
    cases q2 : f' j k with
    | false => exact iteF (by rw [q, q2] at kk; exact kk B3 H3 ((s1.trans s2).trans s3))
    | true =>
      refine iteT ?_
      refine rd σ B3 H3 _ (((g.stp s1).stp s2).stp s3) fun w2 B4 H4 s4 e4 => ⟨k, l, e3, e4, _, rfl, ?_⟩
      rw [q, q2] at kk
      exact kk B4 H4 (((s1.trans s2).trans s3).trans s4)
/-! ### texts -/
theorem i_str {tg : Expr} {x : Str} (h : PX X a Γ o (is X.K x)) : PIX X tg a Γ o (x.cps.toList.map fun c => is X.K (⟨#[c]⟩ : Str)) := by
  obtain ⟨t, p, f⟩ := h
  refine ⟨_, pi_str p, fun σ B H R g k => f σ B H _ g fun v B1 H1 s1 e => ⟨x, e, k _ B1 H1 s1 ⟨fun i P Bc H2 eP b c => ?_, fun Bc H2 b c => ?_⟩⟩⟩
  · rw [List.getElem?_map] at eP
    cases ec : x.cps.toList[i]? with
    | none => rw [ec] at eP; cases eP
    | some z =>
      rw [ec] at eP
      have eP := (Option.some.inj eP).symm
      subst eP
      have hi : i < x.cps.size := by
        have := (List.getElem?_eq_some_iff.mp ec).1
        simpa using this
      refine ⟨hi, fun y H' hy => ?_⟩
      obtain ⟨e1, c0, e2, e3⟩ := hy
      subst e1
      have e4 : x.cps[i]? = some z := by rw [← Array.getElem?_toList]; exact ec
      rw [e4] at e2
      cases e2
      exact ⟨Bc, .refl c, e3⟩
  · show x.cps.size ≤ _
    rw [List.length_map]
    exact Nat.le_of_eq (by simp)
theorem t_ninS {z : Nat} {x : Str} (ha : PX X a Γ o (is X.K (⟨#[z]⟩ : Str))) (hb : PX X b Γ o (is X.K x)) (hm : behindInMarks .NotIn b = false := by with_unfolding_all rfl) : PTX X (.Compare a [.NotIn] [b] pos) Γ o (!decide (z ∈ x.cps.toList)) := by
  obtain ⟨ta, pa, ra⟩ := ha
  obtain ⟨tb, pb, rb⟩ := hb
  refine ⟨_, pt_cmpR op_notIn_sign pa pb hm, fun σ B H Q g k => ?_⟩
  exact ra σ B H _ g fun v B1 H1 s1 e1 => rb σ B1 H1 _ (g.stp s1) fun u B2 H2 s2 e2 => ⟨z, x, e1, e2, _, rfl, k B2 H2 (s1.trans s2)⟩
end
/-! ### a list or a tuple -/
inductive Sq (α : Type) where
  | tp (xs : List α)
  | ls (xs : List α)
def Sq.v {α : Type} : Sq α → List α
  | .tp xs => xs
  | .ls xs => xs
instance {α : Type} [Rep α] : Rep (Sq α) := ⟨fun K s => match s with
  | .tp xs => is K (Tup.mk xs)
  | .ls xs => is K xs⟩
section
variable {X : Cx} {Γ : Gm} {o : Option Own} {a b e : Expr} {es : List Expr} {pos p : Pos} {α β : Type} [Rep α] [Rep β]
theorem x_tupS {s : Sq α} (hm : X.mg "tuple" = none) (h : PAX X [a] Γ o [is X.K s]) (hg : Gl X "tuple" := by rfl) (he : starEach [a] X.env = (false, eval a X.env) :: starEach [] X.env := by rfl) (hpl : (backTo pos (starEach [] X.env)).any (·.1) = false := by rfl) :
    PX X (.Call (.Name "tuple" p) [a] [] pos) Γ o (is X.K (Tup.mk s.v)) := by
  cases s with
  | tp xs => exact x_tupT (Ps := xs.map (is X.K)) hm h hg he hpl
  | ls xs => exact x_tupL (Ps := xs.map (is X.K)) hm h hg he hpl
/-! ### data compared -/
theorem x_neDV {c : α} {d : β} [ToD α] [ToD β] (hu : X.A.units + 64 < cLine) (ha : PX X a Γ o (is X.K c)) (hb : PX X b Γ o (is X.K d)) : PX X (.Compare a [.NotEq] [b] pos) Γ o (is X.K (!PyData.eqv (ToD.toD c) (ToD.toD d))) := by
  obtain ⟨ta, pa, ra⟩ := ha
  obtain ⟨tb, pb, rb⟩ := hb
  refine ⟨_, pe_cmpR (op_neD hu) pa pb (nomark _), fun σ B H Q g k => ?_⟩
  refine ra σ B H _ g fun v B1 H1 s1 e1 => rb σ B1 H1 _ (g.stp s1) fun u B2 H2 s2 e2 => ?_
  exact ⟨ToD.toD c, ToD.toD d, ToD.dp X.K H2 v c ((is X.K c).mono (s2.bb.trans s2.bh) e1), ToD.dp X.K H2 u d ((is X.K d).mono s2.bh e2), ToD.sh c, ToD.sh d, k _ B2 H2 (s1.trans s2) rfl⟩
theorem x_any {P : MP} (h : PX X e Γ o P) : PX X e Γ o (is X.K Any.any) := h.le fun _ _ _ => trivial
end
theorem AllR.four {B : Hp} {P Q R S : MP} : ∀ {vs : List V}, AllR [P, Q, R, S] B vs → ∃ v u w z, vs = [v, u, w, z] ∧ P.p B v ∧ Q.p B u ∧ R.p B w ∧ S.p B z
  | [v, u, w, z], h => ⟨v, u, w, z, rfl, h.1, h.2.1, h.2.2.1, h.2.2.2.1⟩
  | [], h => h.elim
  | [_], h => h.2.elim
  | [_, _], h => h.2.2.elim
  | [_, _, _], h => h.2.2.2.elim
  | _ :: _ :: _ :: _ :: _ :: _, h => h.2.2.2.2.elim
end L3
set_option maxHeartbeats 400000
/-! Data compared by == (texts among it); the own object's methods; a local def called; a dict of the module; defaults. -/
namespace L3
open PySem PySem.Spec PyProof.Rows L2 Or
class ToE (α : Type) [Rep α] where
  toE : α → PyData
  dp : ∀ (K : Fg) (B : Hp) (v : V) (a : α), (is K a).p B v → Dp K B v (toE a)
  ok : α → Prop
  dep : Nat
  lay : ∀ a : α, ok a → PyData.canLay0 (toE a) = true
  dle : ∀ a : α, PyData.depth (toE a) ≤ dep
theorem ToE.sh {α : Type} [Rep α] [ToE α] (a : α) (h : ToE.ok a) (hd : ToE.dep α ≤ 64) : SeqAt.shaped (ToE.toE a) = true := by
  unfold SeqAt.shaped
  rw [ToE.lay a h, Bool.true_and]
  exact decide_eq_true (Nat.le_trans (ToE.dle a) hd)
instance : ToE Int := ⟨fun i => .int i, fun K B v a h => by have h : v = .int a := h; subst h; exact .int a, fun _ => True, 0, fun a _ => by unfold PyData.canLay0; rfl, fun a => by unfold PyData.depth; exact Nat.le_refl _⟩
instance : ToE Str := ⟨fun i => .str i, fun K B v a h => by have h : v = .str a := h; subst h; exact .str a, fun x => PyData.canLay0 (.str x) = true, 0, fun a h => h, fun a => by unfold PyData.depth; exact Nat.le_refl _⟩
theorem depth_tup {ds : List PyData} : PyData.depth (.tuple ds) = PyData.depthAll ds + 1 := by rw [PyData.depth]
theorem depth_lst {ds : List PyData} : PyData.depth (.list ds) = PyData.depthAll ds + 1 := by rw [PyData.depth]
theorem depth_cons {d : PyData} {ds : List PyData} : PyData.depthAll (d :: ds) = max (PyData.depth d) (PyData.depthAll ds) := by rw [PyData.depthAll]
theorem depth_nil : PyData.depthAll [] = 0 := by rw [PyData.depthAll]
theorem lay_tup {ds : List PyData} : PyData.canLay0 (.tuple ds) = PyData.canLayAll0 ds := by rw [PyData.canLay0]
theorem lay_lst {ds : List PyData} : PyData.canLay0 (.list ds) = PyData.canLayAll0 ds := by rw [PyData.canLay0]
theorem lay_cons {d : PyData} {ds : List PyData} : PyData.canLayAll0 (d :: ds) = (PyData.canLay0 d && PyData.canLayAll0 ds) := by rw [PyData.canLayAll0]
theorem lay_nil : PyData.canLayAll0 [] = true := by rw [PyData.canLayAll0]
section
variable {α β γ δ ε ζ η : Type} [Rep α] [Rep β] [Rep γ] [Rep δ] [Rep ε] [Rep ζ] [Rep η] [ToE α] [ToE β] [ToE γ] [ToE δ] [ToE ε] [ToE ζ] [ToE η]
instance : ToE (T2 α β) where
  toE d := .tuple [ToE.toE d.a, ToE.toE d.b]
  dp K B v d h := by
    obtain ⟨p, vs, rfl, hs, ha⟩ := h
    obtain ⟨v, u, rfl, h1, h2⟩ := ha.two
    exact .tup hs (.cons (ToE.dp K B v d.a h1) (.cons (ToE.dp K B u d.b h2) .nil))
  ok d := ToE.ok d.a ∧ ToE.ok d.b
  dep := max (ToE.dep α) (ToE.dep β) + 1
  lay d h := by
    rw [lay_tup, lay_cons, lay_cons, lay_nil, ToE.lay d.a h.1, ToE.lay d.b h.2]
    rfl
  dle d := by
    rw [depth_tup, depth_cons, depth_cons, depth_nil]
    have h1 := ToE.dle d.a
    have h2 := ToE.dle d.b
    omega
instance : ToE (T3 α β γ) where
  toE d := .tuple [ToE.toE d.a, ToE.toE d.b, ToE.toE d.c]
  dp K B v d h := by
    obtain ⟨p, vs, rfl, hs, ha⟩ := h
    obtain ⟨v, u, w, rfl, h1, h2, h3⟩ := ha.three
    exact .tup hs (.cons (ToE.dp K B v d.a h1) (.cons (ToE.dp K B u d.b h2) (.cons (ToE.dp K B w d.c h3) .nil)))
  ok d := ToE.ok d.a ∧ ToE.ok d.b ∧ ToE.ok d.c
  dep := max (max (ToE.dep α) (ToE.dep β)) (ToE.dep γ) + 1
  lay d h := by
    rw [lay_tup, lay_cons, lay_cons, lay_cons, lay_nil, ToE.lay d.a h.1, ToE.lay d.b h.2.1, ToE.lay d.c h.2.2]
    rfl
  dle d := by
    rw [depth_tup, depth_cons, depth_cons, depth_cons, depth_nil]
    have h1 := ToE.dle d.a
    have h2 := ToE.dle d.b
    have h3 := ToE.dle d.c
    omega
theorem dpAll_map {K : Fg} {B : Hp} : ∀ {l : List α} {vs : List V}, AllR (l.map (is K)) B vs → DpAll K B vs (l.map ToE.toE)
  | [], [], _ => .nil
  | a :: l, v :: vs, h => .cons (ToE.dp K B v a h.1) (dpAll_map h.2)
  | [], _ :: _, h => h.elim
  | _ :: _, [], h => h.elim
theorem layAll_map : ∀ {l : List α}, (∀ x ∈ l, ToE.ok x) → PyData.canLayAll0 (l.map ToE.toE) = true
  | [], _ => lay_nil
  | a :: l, h => by
    rw [List.map_cons, lay_cons, ToE.lay a (h a List.mem_cons_self), layAll_map fun x hx => h x (List.mem_cons_of_mem _ hx)]
    rfl
theorem depAll_map : ∀ {l : List α}, PyData.depthAll (l.map ToE.toE) ≤ ToE.dep α
  | [] => by rw [List.map_nil, depth_nil]; exact Nat.zero_le _
  | a :: l => by
    rw [List.map_cons, depth_cons]
    exact Nat.max_le.mpr ⟨ToE.dle a, depAll_map⟩
instance : ToE (Tup α) where
  toE d := .tuple (d.l.map ToE.toE)
  dp K B v d h := by
    obtain ⟨p, vs, rfl, hs, ha⟩ := h
    exact .tup hs (dpAll_map ha)
  ok d := ∀ x ∈ d.l, ToE.ok x
  dep := ToE.dep α + 1
  lay d h := by rw [lay_tup]; exact layAll_map h
  dle d := by rw [depth_tup]; exact Nat.succ_le_succ depAll_map
theorem AllR.seven {B : Hp} {P1 P2 P3 P4 P5 P6 P7 : MP} : ∀ {vs : List V}, AllR [P1, P2, P3, P4, P5, P6, P7] B vs → ∃ v1 v2 v3 v4 v5 v6 v7, vs = [v1, v2, v3, v4, v5, v6, v7] ∧ P1.p B v1 ∧ P2.p B v2 ∧ P3.p B v3 ∧ P4.p B v4 ∧ P5.p B v5 ∧ P6.p B v6 ∧ P7.p B v7
  | v1 :: vs, h => by
    obtain ⟨v2, v3, v4, v5, e, h2, h3, h4, h5⟩ : ∃ v2 v3 v4 v5, vs.take 4 = [v2, v3, v4, v5] ∧ P2.p B v2 ∧ P3.p B v3 ∧ P4.p B v4 ∧ P5.p B v5 := AllR.four (h.2.take 4)
    obtain ⟨v6, v7, e2, h6, h7⟩ : ∃ v6 v7, vs.drop 4 = [v6, v7] ∧ P6.p B v6 ∧ P7.p B v7 := (h.2.drop 4).two
    refine ⟨v1, v2, v3, v4, v5, v6, v7, ?_, h.1, h2, h3, h4, h5, h6, h7⟩
    rw [← List.take_append_drop 4 vs, e, e2]
    rfl
  | [], h => h.elim
instance : ToE (T7 α β γ δ ε ζ η) where
  toE d := .tuple [ToE.toE d.a, ToE.toE d.b, ToE.toE d.c, ToE.toE d.d, ToE.toE d.e, ToE.toE d.f, ToE.toE d.g]
  dp K B v d h := by
    obtain ⟨p, vs, rfl, hs, ha⟩ := h
    obtain ⟨v1, v2, v3, v4, v5, v6, v7, rfl, h1, h2, h3, h4, h5, h6, h7⟩ := AllR.seven ha
    exact .tup hs (.cons (ToE.dp K B v1 d.a h1) (.cons (ToE.dp K B v2 d.b h2) (.cons (ToE.dp K B v3 d.c h3) (.cons (ToE.dp K B v4 d.d h4) (.cons (ToE.dp K B v5 d.e h5) (.cons (ToE.dp K B v6 d.f h6) (.cons (ToE.dp K B v7 d.g h7) .nil)))))))
  ok d := ToE.ok d.a ∧ ToE.ok d.b ∧ ToE.ok d.c ∧ ToE.ok d.d ∧ ToE.ok d.e ∧ ToE.ok d.f ∧ ToE.ok d.g
  dep := max (max (max (max (max (max (ToE.dep α) (ToE.dep β)) (ToE.dep γ)) (ToE.dep δ)) (ToE.dep ε)) (ToE.dep ζ)) (ToE.dep η) + 1
  lay d h := by
    rw [lay_tup, lay_cons, lay_cons, lay_cons, lay_cons, lay_cons, lay_cons, lay_cons, lay_nil, ToE.lay d.a h.1, ToE.lay d.b h.2.1, ToE.lay d.c h.2.2.1, ToE.lay d.d h.2.2.2.1, ToE.lay d.e h.2.2.2.2.1, ToE.lay d.f h.2.2.2.2.2.1, ToE.lay d.g h.2.2.2.2.2.2]
    rfl
  dle d := by
    rw [depth_tup, depth_cons, depth_cons, depth_cons, depth_cons, depth_cons, depth_cons, depth_cons, depth_nil]
    have h1 := ToE.dle d.a
    have h2 := ToE.dle d.b
    have h3 := ToE.dle d.c
    have h4 := ToE.dle d.d
    have h5 := ToE.dle d.e
    have h6 := ToE.dle d.f
    have h7 := ToE.dle d.g
    omega
end
section
variable {X : Cx} {Γ : Gm} {o : Option Own} {a b : Expr} {pos : Pos} {α : Type} [Rep α] [ToE α] {c d : α}
def eqE (c d : α) : Bool := PyData.eqv (ToE.toE c) (ToE.toE d)
theorem x_eqE (hu : X.A.units + 64 < cLine) (hc : ToE.ok c) (hd : ToE.ok d) (ha : PX X a Γ o (is X.K c)) (hb : PX X b Γ o (is X.K d)) (hp : ToE.dep α ≤ 64 := by decide) : PX X (.Compare a [.Eq] [b] pos) Γ o (is X.K (eqE c d)) := by
  obtain ⟨ta, pa, ra⟩ := ha
  obtain ⟨tb, pb, rb⟩ := hb
  refine ⟨_, pe_cmpR (op_eqD hu) pa pb (nomark _), fun σ B H Q g k => ?_⟩
  refine ra σ B H _ g fun v B1 H1 s1 e1 => rb σ B1 H1 _ (g.stp s1) fun u B2 H2 s2 e2 => ?_
  exact ⟨ToE.toE c, ToE.toE d, ToE.dp X.K H2 v c ((is X.K c).mono (s2.bb.trans s2.bh) e1), ToE.dp X.K H2 u d ((is X.K d).mono s2.bh e2), ToE.sh c hc hp, ToE.sh d hd hp, k _ B2 H2 (s1.trans s2) rfl⟩
theorem x_neE (hu : X.A.units + 64 < cLine) (hc : ToE.ok c) (hd : ToE.ok d) (ha : PX X a Γ o (is X.K c)) (hb : PX X b Γ o (is X.K d)) (hp : ToE.dep α ≤ 64 := by decide) : PX X (.Compare a [.NotEq] [b] pos) Γ o (is X.K (!eqE c d)) := by
  obtain ⟨ta, pa, ra⟩ := ha
  obtain ⟨tb, pb, rb⟩ := hb
  refine ⟨_, pe_cmpR (op_neD hu) pa pb (nomark _), fun σ B H Q g k => ?_⟩
  refine ra σ B H _ g fun v B1 H1 s1 e1 => rb σ B1 H1 _ (g.stp s1) fun u B2 H2 s2 e2 => ?_
  exact ⟨ToE.toE c, ToE.toE d, ToE.dp X.K H2 v c ((is X.K c).mono (s2.bb.trans s2.bh) e1), ToE.dp X.K H2 u d ((is X.K d).mono s2.bh e2), ToE.sh c hc hp, ToE.sh d hd hp, k _ B2 H2 (s1.trans s2) rfl⟩
theorem t_eqE (hu : X.A.units + 64 < cLine) (hc : ToE.ok c) (hd : ToE.ok d) (ha : PX X a Γ o (is X.K c)) (hb : PX X b Γ o (is X.K d)) (hp : ToE.dep α ≤ 64 := by decide) : PTX X (.Compare a [.Eq] [b] pos) Γ o (eqE c d) := by
  obtain ⟨ta, pa, ra⟩ := ha
  obtain ⟨tb, pb, rb⟩ := hb
  refine ⟨_, pt_cmpR (op_eqD hu) pa pb (nomark _), fun σ B H Q g k => ?_⟩
  refine ra σ B H _ g fun v B1 H1 s1 e1 => rb σ B1 H1 _ (g.stp s1) fun u B2 H2 s2 e2 => ?_
  exact ⟨ToE.toE c, ToE.toE d, ToE.dp X.K H2 v c ((is X.K c).mono (s2.bb.trans s2.bh) e1), ToE.dp X.K H2 u d ((is X.K d).mono s2.bh e2), ToE.sh c hc hp, ToE.sh d hd hp, _, rfl, k B2 H2 (s1.trans s2)⟩
theorem t_neE (hu : X.A.units + 64 < cLine) (hc : ToE.ok c) (hd : ToE.ok d) (ha : PX X a Γ o (is X.K c)) (hb : PX X b Γ o (is X.K d)) (hp : ToE.dep α ≤ 64 := by decide) : PTX X (.Compare a [.NotEq] [b] pos) Γ o (!eqE c d) := by
  obtain ⟨ta, pa, ra⟩ := ha
  obtain ⟨tb, pb, rb⟩ := hb
  refine ⟨_, pt_cmpR (op_neD hu) pa pb (nomark _), fun σ B H Q g k => ?_⟩
  refine ra σ B H _ g fun v B1 H1 s1 e1 => rb σ B1 H1 _ (g.stp s1) fun u B2 H2 s2 e2 => ?_
  exact ⟨ToE.toE c, ToE.toE d, ToE.dp X.K H2 v c ((is X.K c).mono (s2.bb.trans s2.bh) e1), ToE.dp X.K H2 u d ((is X.K d).mono s2.bh e2), ToE.sh c hc hp, ToE.sh d hd hp, _, rfl, k B2 H2 (s1.trans s2)⟩
end
/-! ### the own object's methods -/
section
variable {X : Cx} {Γ : Gm} {e1 : Expr} {es : List Expr} {As : List MP} {pos pos' apos np : Pos} {x m : Str} {f y C : Addr} {fd : FuncData} {ps : List Str} {k i : Nat} {α : Type} {pre : α → Prop} {A : α → List MP} {F0 F1 : α → List (Str × MP)} {R : α → MP} {Bk Ct : Asn} {Rt : Ret}
theorem ocall_core {B0 H0 B H : Hp} {σ : L2.St} {l : Addr} {vs : List V} {Q : VK} {E : XK} (a : α) (ha : pre a) (b : Bs B0 H0 B H) (g : Good Γ (some (ownI y C i (F0 a))) σ B H) (ow : σ[i]? = some (some (.ref l)) → H0 l = none) (hs : σ[i]? = some (some (.ref l))) (rv : AllR (A a) B vs)
    (q : ∀ v H', (as Γ (some (ownI y C i (F1 a)))).p B0 H0 σ H' → Q v H') : spM C pre A F0 F1 R (.ref l :: vs) H Q E := by
  obtain ⟨l', u, e1, e2, e3, e4⟩ := g.own _ rfl
  have e1' : σ[i]? = some (some (.ref l')) := e1
  rw [hs] at e1'
  cases e1'
  have hl : H0 l = none := ow hs
  refine ⟨a, B, l, vs, u, rfl, ha, g.sub, e2, rv, e3, ⟨rfl, e4.2⟩, fun v B' H' u' b' sb n hu iu _ => q v H' ?_⟩
  refine ⟨B', ⟨b.bb.trans b'.bb, fun c z e => b'.hh _ _ ?_, fun c z e n2 => ?_⟩, ⟨sb, g.len, fun j P e => ?_, fun w e => ?_⟩, fun w c e z => ?_⟩
  · unfold cut1
    rw [if_neg (by intro w; cases w; rw [hl] at e; cases e)]
    exact b.hh _ _ e
  · cases qB : B c with
    | none =>
      have h1 := b'.fr c z e qB
      unfold cut1 at h1
      split at h1
      · rename_i w
        cases w
        exact hl
      · exact b.hh.free h1
    | some z2 => exact b.fr c z2 qB n2
  · obtain ⟨v2, h1, h2⟩ := g.val j P e
    exact ⟨v2, h1, P.mono b'.bb h2⟩
  · cases e
    exact ⟨l, u', hs, n, hu, ⟨e4.1, iu.2⟩⟩
  · cases e
    have z' : σ[i]? = some (some (.ref c)) := z
    rw [hs] at z'
    cases z'
    exact hl
theorem sx_ocall (c : Cls X.K C) (hm : Meth X.K C m f) (F : FnOk X.prog X.w X.K X.mg X.base CX0 k f fd ps (spM C pre A F0 F1 R)) (hr : Room k X.A) (hb : Binds X.K fd ps []) (a : α) (ha : pre a) (hf : (F0 a).lookup m = none)
    (h : PAX X (e1 :: es) Γ (some (ownI y C i (F0 a))) As) (hA : As = A a) {pl : Sem Bool} (hN : X.N[i]? = some x := by rfl) (hv : Vis X.env.scope x := by first | exact Or.inl rfl | exact Or.inr (Or.inl rfl))
    (hd : (x == ("__debug__" : Str)) = false := by decide) (hcd : (x == ("__classdict__" : Str)) = false := by decide)
    (ht : eval (.Call (.Attribute (.Name x np) m apos) (e1 :: es) [] pos') X.env = (do
      let ov ← eval (.Name x np) X.env
      standAt apos.atName
      let (f, first) ← holding [ov] (getMethod ov m pl)
      callWith pos' f first (backTo pos' (starEach (e1 :: es) X.env)) (backToKw pos' (keywordEach [] X.env))) := by rfl)
    (hpl : (backTo pos' (starEach es X.env)).any (·.1) = false := by rfl) (he : starEach (e1 :: es) X.env = (false, eval e1 X.env) :: starEach es X.env := by rfl) (hs : swapsWith (.Call (.Attribute (.Name x np) m apos) (e1 :: es) [] pos') none pos.line X.env = pure false := by rfl) :
    SX X (.Expr (.Call (.Attribute (.Name x np) m apos) (e1 :: es) [] pos') pos) (as Γ (some (ownI y C i (F0 a)))) (as Γ (some (ownI y C i (F1 a)))) Bk Ct Rt := by
  subst hA
  obtain ⟨t, pp, g⟩ := h
  refine ⟨_, ps_expr (pe_meth (pl := pl) (pe_var (i := i) hN hv hd hcd) c hm F hr hb .nil pass0 pp he hpl ht) hs, fun B0 H0 σ H D ⟨B, b, gd, ow⟩ d => ?_⟩
  obtain ⟨l, u, q1, q2, q3, q4⟩ := gd.own _ rfl
  have q1 : σ[i]? = some (some (.ref l)) := q1
  obtain ⟨el, dx, fs, rfl, h3, h4⟩ := q4
  refine ⟨.ref l, q1, l, dx, fs, rfl, q3, fld_none h3 hf, g σ B H _ gd fun vs B1 H1 s1 rv => ?_⟩
  rw [List.append_nil]
  exact ocall_core a ha (b.stp s1) (gd.stp s1) (fun q => ow _ l rfl q) q1 rv fun v H' z => d.nx _ _ z
theorem sx_ocall0 (c : Cls X.K C) (hm : Meth X.K C m f) (F : FnOk X.prog X.w X.K X.mg X.base CX0 k f fd ps (spM C pre A F0 F1 R)) (hr : Room k X.A) (hb : Binds X.K fd ps []) (a : α) (ha : pre a) (hf : (F0 a).lookup m = none)
    (hA : A a = []) {pl : Sem Bool} (hN : X.N[i]? = some x := by rfl) (hv : Vis X.env.scope x := by first | exact Or.inl rfl | exact Or.inr (Or.inl rfl))
    (hd : (x == ("__debug__" : Str)) = false := by decide) (hcd : (x == ("__classdict__" : Str)) = false := by decide)
    (ht : eval (.Call (.Attribute (.Name x np) m apos) [] [] pos') X.env = (do
      let ov ← eval (.Name x np) X.env
      standAt apos.atName
      let (f, first) ← holding [ov] (getMethod ov m pl)
      callWith pos' f first (backTo pos' (starEach [] X.env)) (backToKw pos' (keywordEach [] X.env))) := by rfl)
    (hs : swapsWith (.Call (.Attribute (.Name x np) m apos) [] [] pos') none pos.line X.env = pure false := by rfl) :
    SX X (.Expr (.Call (.Attribute (.Name x np) m apos) [] [] pos') pos) (as Γ (some (ownI y C i (F0 a)))) (as Γ (some (ownI y C i (F1 a)))) Bk Ct Rt := by
  refine ⟨_, ps_expr (pe_meth0 (pl := pl) (pe_var (i := i) hN hv hd hcd) c hm F hr hb .nil pass0 ht) hs, fun B0 H0 σ H D ⟨B, b, gd, ow⟩ d => ?_⟩
  obtain ⟨l, u, q1, q2, q3, q4⟩ := gd.own _ rfl
  have q1 : σ[i]? = some (some (.ref l)) := q1
  obtain ⟨el, dx, fs, rfl, h3, h4⟩ := q4
  refine ⟨.ref l, q1, l, dx, fs, rfl, q3, fld_none h3 hf, ?_⟩
  exact ocall_core (E := fun _ _ _ => False) (vs := []) a ha b gd (fun q => ow _ l rfl q) q1 (by rw [hA]; exact True.intro) fun v H' z => d.nx _ _ z
/-- self.f += e, ints -/
theorem sx_ofldadd {e : Expr} {fs : List (Str × MP)} {p q : Int} {fl : Str} (c : Cls X.K C) (n : NoAttr X.K C fl) (hf : fs.lookup fl = some (is X.K p)) (he : PX X e Γ (some (ownI y C i fs)) (is X.K q)) (hl : fs.length < 1000 := by exact Nat.lt_of_succ_le (Nat.le_of_ble_eq_true rfl)) (hN : X.N[i]? = some x := by rfl) (hv : Vis X.env.scope x := by first | exact Or.inl rfl | exact Or.inr (Or.inl rfl))
    (hd : (x == ("__debug__" : Str)) = false := by decide) (hcd : (x == ("__classdict__" : Str)) = false := by decide) :
    SX X (.AugAssign (.Attribute (.Name x np) fl pos') .Add e pos) (as Γ (some (ownI y C i fs))) (as Γ (some (ownI y C i (putM fl (is X.K (p + q)) fs)))) Bk Ct Rt := by
  obtain ⟨t, pp, g⟩ := he
  refine ⟨_, ps_fldaug (pe_var (i := i) hN hv hd hcd) pp in_add, fun B0 H0 σ H D ⟨B, b, gd, ow⟩ d => ?_⟩
  obtain ⟨l, u, q1, q2, q3, q4⟩ := gd.own _ rfl
  have q1 : σ[i]? = some (some (.ref l)) := q1
  obtain ⟨el, dx, vs, rfl, h3, h4⟩ := q4
  obtain ⟨z, z1, z2⟩ := fld_of h3 h4 hf
  refine ⟨.ref l, q1, l, C, dx, vs, z, rfl, q3, c, n, z1, g σ B H _ gd fun v B1 H1 s1 hv => ⟨p, q, z2, hv, ?_⟩⟩
  obtain ⟨l', u', w1, w2, w3, w4⟩ := (gd.stp s1).own _ rfl
  have w1 : σ[i]? = some (some (.ref l')) := w1
  rw [q1] at w1
  cases w1
  obtain ⟨el', dx', vs', rfl, h3', h4'⟩ := w4
  have h5 : vs'.length = fs.length := by simpa using congrArg List.length h3'
  refine ⟨dx', vs', w3, by omega, d.nx _ _ ?_⟩
  obtain ⟨k1, k2⟩ := putM_ok (P := is X.K (p + q)) (v := .int (p + q)) (f := fl) rfl h3' h4'
  exact own_upd (w := ownI y C i fs) (b.stp s1) (gd.stp s1) (ow _ l rfl q1) q1 w2 rfl ⟨el, dx', _, rfl, k1, k2⟩
end
/-! ### a local def called -/
section
variable {X : Cx} {Γ : Gm} {o : Option Own} {e a b : Expr} {es : List Expr} {As : List MP} {pos p : Pos} {x : Str} {f : Addr} {fd : FuncData} {ps : List Str} {k : Nat} {α : Type} {pre : α → Prop} {A : α → List MP} {R : α → MP}
theorem x_callL (i : Nat) (F : FnOk X.prog X.w X.K X.mg X.base CX0 k f fd ps (spF pre A R)) (hr : Room k X.A) (hk : PySem.W.keepIn X.K (.ref f) = true) (hb : Binds X.K fd ps []) (hv : Γ[i]? = some (some (eqv (.ref f)))) (z : α) (hz : pre z) (h : PAX X (e :: es) Γ o As) (hA : As = A z)
    (hN : X.N[i]? = some x := by rfl) (hvis : Vis X.env.scope x := by first | exact Or.inl rfl | exact Or.inr (Or.inl rfl)) (hdb : (x == ("__debug__" : Str)) = false := by decide) (hcd : (x == ("__classdict__" : Str)) = false := by decide)
    (he : starEach (e :: es) X.env = (false, eval e X.env) :: starEach es X.env := by rfl) (hpl : (backTo pos (starEach es X.env)).any (·.1) = false := by rfl) : PX X (.Call (.Name x p) (e :: es) [] pos) Γ o (R z) := by
  subst hA
  obtain ⟨t, pp, g⟩ := h
  refine ⟨_, pe_callL F hr hN hvis hk hb .nil pass0 pp hdb hcd he hpl, fun σ B H Q gd q => ?_⟩
  obtain ⟨v, h1, h2⟩ := gd.val i _ hv
  have h2 : v = .ref f := h2
  subst h2
  refine ⟨h1, g σ B H _ gd fun vs B1 H1 s1 rv => ?_⟩
  rw [List.append_nil]
  exact ⟨z, B1, hz, s1.bh, rv, fun v B2 H2 s2 r2 => q v B2 H2 (s1.trans s2) r2⟩
/-! ### a dict of the module -/
theorem t_inKd {d : Addr} {dn : Str} {q : Pos} {es : Array DictEntry} {n : Nat} {w : Str} {r : Option Value} (D : KDict X.K X.w d es n) (hm : X.mg dn = some (.ref d)) (ha : PX X a Γ o (is X.K w)) (hw : PySem.W.nsIn X.K d w = some r) (hg : Gl X dn := by rfl) (hd : (dn == ("__debug__" : Str)) = false := by decide)
    (hmk : behindInMarks .In (.Name dn q) = false := by with_unfolding_all rfl) : PTX X (.Compare a [.In] [.Name dn q] pos) Γ o r.isSome := by
  obtain ⟨ta, pa, ra⟩ := ha
  refine ⟨_, pt_cmpR (op_in_kd D) pa (pe_glob (v := .ref d) hg hm rfl hd) hmk, fun σ B H Q g k => ?_⟩
  exact ra σ B H _ g fun v B1 H1 s1 e1 => ⟨w, r, e1, rfl, hw, _, rfl, k B1 H1 s1⟩
theorem x_itemKd {d : Addr} {dn : Str} {q : Pos} {es : Array DictEntry} {n : Nat} {w : Str} {u : Value} {v : V} (D : KDict X.K X.w d es n) (hm : X.mg dn = some (.ref d)) (hb : PX X b Γ o (is X.K w)) (hw : PySem.W.nsIn X.K d w = some (some u)) (hr : RelV v u) (hg : Gl X dn := by rfl) (hd : (dn == ("__debug__" : Str)) = false := by decide)
    (hs : PlainIx b := by intro _ _; rfl) : PX X (.Subscript (.Name dn q) b pos) Γ o (eqv v) := by
  obtain ⟨tb, pb, rb⟩ := hb
  refine ⟨_, pe_ix ix_kdict (pe_glob (v := .ref d) hg hm rfl hd) pb hs, fun σ B H Q g k => ?_⟩
  exact rb σ B H _ g fun z B1 H1 s1 e1 => ⟨d, w, v, rfl, e1, ⟨es, n, u, D.at_, D.lit, hw, hr⟩, k v B1 H1 s1 rfl⟩
end
end L3
set_option maxHeartbeats 400000
/-! The book: its edits in plain Lean, and what holds of its data. -/
namespace Or
open PySem L2 L3
def nameEq (n : Str) (c : Craft) : Bool := decide (c.name = n)
def findC (l : List Craft) (n : Str) : Option Craft := l.find? (nameEq n)
def strLt (x y : Str) : Bool := decide (x.cps.toList < y.cps.toList)
def putC (l : List Craft) (t : Craft) : List Craft := l.filter (fun r => strLt r.name t.name) ++ [t] ++ l.filter (fun r => strLt t.name r.name)
def dropC (l : List Craft) (n : Str) : List Craft := l.filter (fun r => !decide (r.name = n))
def noCraft : Craft := ⟨"", 0, nothing, nothing, 0, ⟨[]⟩, ⟨[]⟩⟩
def craftOf (k : Conts) (n : Str) : Craft := (findC k.crafts.l n).getD noCraft
def withCrafts (k : Conts) (l : Tup Craft) : Conts := ⟨k.body, k.stride, k.fine, l, k.sites⟩
def remade (c : Craft) (d : Int) (b : Sq Burn) (s : Sq Sight) : Craft := ⟨c.name, c.start, c.place, c.speed, d, ⟨b.v⟩, ⟨s.v⟩⟩
def changed (k : Conts) (c : Craft) (d : Int) (b : Sq Burn) (s : Sq Sight) : Conts := withCrafts k ⟨putC k.crafts.l (remade c d b s)⟩
def addCraft (k : Conts) (c : Craft) : Conts := withCrafts k ⟨putC k.crafts.l (remade c c.drift (.tp []) (.tp []))⟩
def dropCraft (k : Conts) (n : Str) : Conts := withCrafts k ⟨dropC k.crafts.l n⟩
def setDrift (k : Conts) (n : Str) (d : Int) : Conts := changed k (craftOf k n) d (.tp (craftOf k n).burns.l) (.tp (craftOf k n).sights.l)
def otherB (c : Craft) (u : Burn) : List Burn := c.burns.l.filter fun o => !decide (o.b = u.b)
def putB (c : Craft) (u : Burn) : List Burn := (otherB c u).filter (fun o => decide (o.b < u.b)) ++ [u] ++ (otherB c u).filter fun o => decide (o.b > u.b)
def addBurn (k : Conts) (n : Str) (u : Burn) : Conts := changed k (craftOf k n) (craftOf k n).drift (.ls (putB (craftOf k n) u)) (.tp (craftOf k n).sights.l)
def otherS (c : Craft) (t : Int) : List Sight := c.sights.l.filter fun o => !decide (o.at_ = t)
def putS (c : Craft) (u : Sight) : List Sight := (otherS c u.at_).filter (fun o => decide (o.at_ < u.at_)) ++ [u] ++ (otherS c u.at_).filter fun o => decide (o.at_ > u.at_)
def addSight (k : Conts) (n : Str) (u : Sight) : Conts := changed k (craftOf k n) (craftOf k n).drift (.tp (craftOf k n).burns.l) (.ls (putS (craftOf k n) u))
def dropSight (k : Conts) (n : Str) (t : Int) : Conts := changed k (craftOf k n) (craftOf k n).drift (.tp (craftOf k n).burns.l) (.ls (otherS (craftOf k n) t))
def setStride (k : Conts) (s : Int) : Conts := ⟨k.body, s, k.fine, k.crafts, k.sites⟩
def setFine (k : Conts) (f : Int) : Conts := ⟨k.body, k.stride, f, k.crafts, k.sites⟩
/-- an edit -/
inductive Edit where
  | addCraft (c : Craft)
  | dropCraft (n : Str)
  | setStride (s : Int)
  | setFine (f : Int)
  | setDrift (n : Str) (d : Int)
  | addBurn (n : Str) (u : Burn)
  | addSight (n : Str) (u : Sight)
  | dropSight (n : Str) (t : Int)
instance : Rep Edit := ⟨fun K e => match e with
  | .addCraft c => is K (T2.mk ("add craft" : Str) c)
  | .dropCraft n => is K (T2.mk ("drop craft" : Str) n)
  | .setStride s => is K (T2.mk ("set stride" : Str) s)
  | .setFine f => is K (T2.mk ("set fineness" : Str) f)
  | .setDrift n d => is K (T3.mk ("set drift" : Str) n d)
  | .addBurn n u => is K (T3.mk ("add burn" : Str) n u)
  | .addSight n u => is K (T3.mk ("add sighting" : Str) n u)
  | .dropSight n t => is K (T3.mk ("drop sighting" : Str) n t)⟩
def applyE (k : Conts) : Edit → Conts
  | .addCraft c => Or.addCraft k c
  | .dropCraft n => Or.dropCraft k n
  | .setStride s => Or.setStride k s
  | .setFine f => Or.setFine k f
  | .setDrift n d => Or.setDrift k n d
  | .addBurn n u => Or.addBurn k n u
  | .addSight n u => Or.addSight k n u
  | .dropSight n t => Or.dropSight k n t
/-! ### what holds of the data -/
def ivIn (m : Int) (a : Iv) : Prop := -m ≤ a.a ∧ a.a ≤ a.b ∧ a.b ≤ m
def boxIn (m : Int) (x : Box) : Prop := ivIn m x.a ∧ ivIn m x.b ∧ ivIn m x.c
def MOST : Int := 10 ^ 15
def MOSTD : Int := 10 ^ 12
def nameOk (n : Str) : Prop := n = "a" ∨ n = "b" ∨ n = "c"
structure CV (c : Craft) : Prop where
  nm : nameOk c.name
  s0 : 0 ≤ c.start
  s1 : c.start ≤ 100000
  pl : boxIn MOST c.place
  sp : boxIn MOST c.speed
  d0 : 0 ≤ c.drift
  d1 : c.drift ≤ MOSTD
  bu : ∀ u ∈ c.burns.l, boxIn MOSTD u.push
  bl : c.burns.l.length ≤ 20
  si : ∀ u ∈ c.sights.l, boxIn MOST u.place
  sl : c.sights.l.length ≤ 20
structure KV (k : Conts) : Prop where
  st0 : 1 ≤ k.stride
  st1 : k.stride ≤ 100
  f0 : 0 ≤ k.fine
  f1 : k.fine ≤ 2
  mu0 : 1 ≤ k.body.mu
  mu1 : k.body.mu ≤ 10 ^ 30
  ob0 : 0 ≤ k.body.obl
  ob1 : k.body.obl ≤ 10 ^ 30
  cr : ∀ c ∈ k.crafts.l, CV c
  cl : k.crafts.l.length ≤ 20
  no : k.sites.l = []
theorem iv_of {m : Int} {a : Iv} (h : ivIn m a) : IV a := h.2.1
theorem box_of {m : Int} {x : Box} (h : boxIn m x) : BV x := ⟨h.1.2.1, h.2.1.2.1, h.2.2.2.1⟩
theorem bi_of {n : Nat} {m : Int} {a : Iv} (h : ivIn m a) (hm : m.natAbs < 2 ^ n) : BI n a := by
  obtain ⟨h1, h2, h3⟩ := h
  unfold BI Sm
  omega
theorem bb_of {n : Nat} {m : Int} {x : Box} (h : boxIn m x) (hm : m.natAbs < 2 ^ n) : BB n x := ⟨bi_of h.1 hm, bi_of h.2.1 hm, bi_of h.2.2 hm⟩
theorem cok_of {c : Craft} (h : CV c) : COk c := ⟨box_of h.pl, box_of h.sp, bb_of h.pl (by decide), h.d0, fun u hu => box_of (h.bu u hu), fun u hu => bb_of (h.si u hu) (by decide)⟩
theorem bok_of {k : Conts} (h : KV k) : BOk k.body := by
  have h1 := h.mu0
  have h2 := h.mu1
  have h3 := h.ob0
  have h4 := h.ob1
  have e : (10 : Int) ^ 30 < 2 ^ 100 := by decide
  have e2 : ((2 ^ 100 : Nat) : Int) = 2 ^ 100 := by decide
  constructor
  · unfold Sm
    omega
  · unfold Sm
    omega
end Or
set_option maxHeartbeats 400000
namespace Or
open PySem PySem.Spec PyProof.Rows L2 L3
local macro_rules | `(tactic| walk_at "gle") => `(tactic| (repeat (first | exact GLe.nil | refine GLe.keep ?_ | refine GLe.drop ?_)))
theorem hu_of {X : Cx} {k : Nat} (hr : Room k X.A) : X.A.units + 64 < cLine := by
  have := hr.un
  omega
section
variable {X : Cx} {Γ : Gm} {o : Option Own} {a b : Expr} {pos : Pos}
theorem t_gtS {x y : Str} (ha : PX X a Γ o (is X.K x)) (hb : PX X b Γ o (is X.K y)) : PTX X (.Compare a [.Gt] [b] pos) Γ o (strLt y x) := by
  obtain ⟨ta, pa, ra⟩ := ha
  obtain ⟨tb, pb, rb⟩ := hb
  refine ⟨_, pt_cmpR op_gt_str pa pb (nomark _), fun σ B H Q g k => ?_⟩
  refine ra σ B H _ g fun v B1 H1 s1 e1 => rb σ B1 H1 _ (g.stp s1) fun u B2 H2 s2 e2 => ?_
  exact ⟨x, y, e1, e2, _, rfl, k B2 H2 (s1.trans s2)⟩
end
theorem ok_check {P : Program} {w : World} {K : Fg} {mg : Str → Option Value} {base : Heap} (T : Tx w K mg) : Fok P w K mg base 1 "check" ["good", "name"] (spF (fun a : Bool × Str => a.1 = true) (fun a : Bool × Str => [is K a.1, is K a.2]) fun _ => eqv .non) := by
  have sc : FnScope ["good", "name"] ["good", "name"] (defScope st_check) := ⟨rfl, rfl, rfl, by decide +kernel, rfl, by decide +kernel, by decide +kernel⟩
  refine fokN T.fn_check T.glo_check (fun _ _ _ _ _ _ us hl => match us, hl with | [_, _], _ => rfl) sc (fun _ => rfl) fun cdv A outer s H E hr a hp => ?_
  obtain ⟨good, name⟩ := a
  have hp : good = true := hp
  subst hp
  show SXs _ _ (as (G0 [is K true, is K name] _) none) _ _ _ _
  refine sx_ifx (d := false) (t_not (d := true) (t_val (x_var 0 rfl))) (fun h => nomatch h) (fun _ => sx_end as_noneA)
theorem c_check {X : Cx} {Γ : Gm} {o : Option Own} {e1 e2 : Expr} {p pos : Pos} {b : Bool} {s : Str} (T : Tx X.w X.K X.mg) (hr : Room 1 X.A) (h : PAX X [e1, e2] Γ o [is X.K b, is X.K s]) (hb : b = true) (hg : Gl X "check" := by rfl) (he : starEach [e1, e2] X.env = (false, eval e1 X.env) :: starEach [e2] X.env := by rfl) (hpl : (backTo pos (starEach [e2] X.env)).any (·.1) = false := by rfl) : PX X (.Call (.Name "check" p) [e1, e2] [] pos) Γ o (eqv .non) :=
  x_callF (ok_check T) hr (b, s) hb h rfl hg (by decide) he hpl
def alphabet : Str := "abcdefghijklmnopqrstuvwxyz0123456789_"
theorem name_len {n : Str} (h : nameOk n) : n.length = 1 := by
  rcases h with h | h | h <;> subst h <;> rfl
theorem name_in {n : Str} (h : nameOk n) : ∀ c ∈ n.cps.toList, c ∈ alphabet.cps.toList := by
  rcases h with h | h | h <;> subst h <;> decide
theorem name_e {n : Str} (h : nameOk n) : ToE.ok n := by
  show PyData.canLay0 (.str n) = true
  rw [PyData.canLay0]
  rcases h with h | h | h <;> subst h <;> decide +kernel
theorem sc_is_name : FnScope ["text", "char"] ["text"] (defScope st_is_name) := ⟨rfl, rfl, rfl, by decide +kernel, rfl, by decide +kernel, by decide +kernel⟩
abbrev v_is_name (text : Str) : Bool := true
def p_is_name (text : Str) : Prop := nameOk text
theorem ok_is_name {P : Program} {w : World} {K : Fg} {mg : Str → Option Value} {base : Heap} (T : Tx w K mg) : Fok P w K mg base 1 "is_name" ["text"] (spF (fun a : Str => p_is_name a) (fun a : Str => [is K a]) fun a => is K (v_is_name a)) := by
  refine fokR T.fn_is_name T.glo_is_name (fun _ _ _ _ _ _ us hl => match us, hl with | [_], _ => rfl) sc_is_name (fun _ => rfl) fun cdv A outer s H E hr text hp => ?_
  have nd := sc_is_name.nd
  have hp : p_is_name text := hp
  show SXs _ _ (as (G0 [is K text] _) none) _ _ _ (retV (is K (v_is_name text)))
  have hp : nameOk text := hp
  have hl := name_len hp
  have hi := name_in hp
  refine sx_ifx (d := false) (PTX.eq (t_not (t_chain op_le op_le x_int (x_lenS T.free_len (xs_cons (x_var 0 rfl) xs_nil) (by rw [hl]; exact small_le (by decide))) x_int)) (by rw [hl]; rfl)) (fun h => nomatch h) (fun _ => ?_)
  refine sx_forS 1 nd (text.cps.toList.map fun c => (⟨#[c]⟩ : Str)) (fun _ => True) (by rw [List.map_map]; exact i_str (x_var 0 rfl)) trivial (fun k a ha hk => ?_) (fun hk => ?_)
  · rw [List.getElem?_map] at ha
    cases ec : text.cps.toList[k]? with
    | none => rw [ec] at ha; cases ha
    | some z =>
      rw [ec] at ha
      have ha := (Option.some.inj ha).symm
      subst ha
      have hz : z ∈ alphabet.cps.toList := hi z (List.mem_of_getElem? ec)
      refine sx_ifx (d := false) (PTX.eq (t_ninS (x_var 1 rfl) (x_str (d := alphabet))) (by rw [decide_eq_true hz]; rfl)) (fun h => nomatch h) (fun _ => ?_)
      exact sx_endS1 trivial rfl
  · exact sx_last (sx_retD x_bl rfl)
theorem c_is_name {X : Cx} {Γ : Gm} {o : Option Own} {e1 : Expr} {p pos : Pos} {text : Str} (T : Tx X.w X.K X.mg) (hr : Room 1 X.A) (h : PAX X [e1] Γ o [is X.K text]) (hp : p_is_name text) (hg : Gl X "is_name" := by rfl) (he : starEach [e1] X.env = (false, eval e1 X.env) :: starEach [] X.env := by rfl) (hpl : (backTo pos (starEach [] X.env)).any (·.1) = false := by rfl) : PX X (.Call (.Name "is_name" p) [e1] [] pos) Γ o (is X.K (v_is_name text)) := x_callF (ok_is_name T) hr (text) hp h rfl hg (by decide) he hpl
theorem sc_is_tick : FnScope ["number"] ["number"] (defScope st_is_tick) := ⟨rfl, rfl, rfl, by decide +kernel, rfl, by decide +kernel, by decide +kernel⟩
abbrev v_is_tick (number : Int) : Bool := decide (0 ≤ number) && decide (number ≤ 100000)
theorem ok_is_tick {P : Program} {w : World} {K : Fg} {mg : Str → Option Value} {base : Heap} (T : Tx w K mg) : Fok P w K mg base 1 "is_tick" ["number"] (spF (fun a : Int => True) (fun a : Int => [is K a]) fun a => is K (v_is_tick a)) := by
  refine fokR T.fn_is_tick T.glo_is_tick (fun _ _ _ _ _ _ us hl => match us, hl with | [_], _ => rfl) sc_is_tick (fun _ => rfl) fun cdv A outer s H E hr number hp => ?_
  have nd := sc_is_tick.nd
  show SXs _ _ (as (G0 [is K number] _) none) _ _ _ (retV (is K (v_is_tick number)))
  exact sx_last (sx_retD (x_chain op_le op_le x_int (x_var 0 rfl) (x_globI T.int_LAST_TICK)) rfl)
theorem c_is_tick {X : Cx} {Γ : Gm} {o : Option Own} {e1 : Expr} {p pos : Pos} {number : Int} (T : Tx X.w X.K X.mg) (hr : Room 1 X.A) (h : PAX X [e1] Γ o [is X.K number]) (hg : Gl X "is_tick" := by rfl) (he : starEach [e1] X.env = (false, eval e1 X.env) :: starEach [] X.env := by rfl) (hpl : (backTo pos (starEach [] X.env)).any (·.1) = false := by rfl) : PX X (.Call (.Name "is_tick" p) [e1] [] pos) Γ o (is X.K (v_is_tick number)) := x_callF (ok_is_tick T) hr (number) trivial h rfl hg (by decide) he hpl
theorem sc_is_box : FnScope ["box", "most", "low", "high"] ["box", "most"] (defScope st_is_box) := ⟨rfl, rfl, rfl, by decide +kernel, rfl, by decide +kernel, by decide +kernel⟩
abbrev v_is_box (box : Box) (most : Int) : Bool := true
def p_is_box (box : Box) (most : Int) : Prop := boxIn most box
theorem ok_is_box {P : Program} {w : World} {K : Fg} {mg : Str → Option Value} {base : Heap} (T : Tx w K mg) : Fok P w K mg base 1 "is_box" ["box", "most"] (spF (fun a : Box × Int => p_is_box a.1 a.2) (fun a : Box × Int => [is K a.1, is K a.2]) fun a => is K (v_is_box a.1 a.2)) := by
  refine fokR T.fn_is_box T.glo_is_box (fun _ _ _ _ _ _ us hl => match us, hl with | [_, _], _ => rfl) sc_is_box (fun _ => rfl) fun cdv A outer s H E hr a hp => ?_
  obtain ⟨box, most⟩ := a
  have nd := sc_is_box.nd
  have hp : p_is_box box most := hp
  show SXs _ _ (as (G0 [is K box, is K most] _) none) _ _ _ (retV (is K (v_is_box box most)))
  have hp : boxIn most box := hp
  have hq : ∀ i ∈ [box.a, box.b, box.c], ivIn most i := by
    intro i hi
    rcases List.mem_cons.mp hi with e | hi
    · rw [e]; exact hp.1
    · rcases List.mem_cons.mp hi with e | hi
      · rw [e]; exact hp.2.1
      · rw [List.mem_singleton.mp hi]; exact hp.2.2
  refine sx_forU (ι := Unit) [box.a, box.b, box.c] (fun _ _ => []) (fun _ _ => none) (fun _ _ => True) () (i_3 (x_var 0 rfl)) trivial (by walk_at "gle") rfl (fun k _ a ha _ => ?_) (fun _ _ => ?_)
  · obtain ⟨h1, h2, h3⟩ := hq a (List.mem_of_getElem? ha)
    refine ⟨_, _, g_tup (Ps := [is K a.a, is K a.b]) rfl (gs_cons (g_name 2 nd) (gs_cons (g_name 3 nd) gs_nil)) rfl, no_own, ?_⟩
    refine sx_ifx (d := false) (PTX.eq (t_not (t_chain3 op_le op_le op_le (x_neg (x_var 1 rfl)) (x_var 2 rfl) (x_var 3 rfl) (x_var 1 rfl))) (by rw [decide_eq_true h1, decide_eq_true h2, decide_eq_true h3]; rfl)) (fun h => nomatch h) (fun _ => ?_)
    exact sx_endU () trivial (by walk_at "gle") rfl
  · exact sx_last (sx_retD x_bl rfl)
theorem c_is_box {X : Cx} {Γ : Gm} {o : Option Own} {e1 e2 : Expr} {p pos : Pos} {box : Box} {most : Int} (T : Tx X.w X.K X.mg) (hr : Room 1 X.A) (h : PAX X [e1, e2] Γ o [is X.K box, is X.K most]) (hp : p_is_box box most) (hg : Gl X "is_box" := by rfl) (he : starEach [e1, e2] X.env = (false, eval e1 X.env) :: starEach [e2] X.env := by rfl) (hpl : (backTo pos (starEach [e2] X.env)).any (·.1) = false := by rfl) : PX X (.Call (.Name "is_box" p) [e1, e2] [] pos) Γ o (is X.K (v_is_box box most)) := x_callF (ok_is_box T) hr (box, most) hp h rfl hg (by decide) he hpl
theorem sc_Body_init : FnScope ["self", "mu", "oblateness", "turn", "a", "b", "n"] ["self", "mu", "oblateness", "turn"] (defScope st_Body_init) := ⟨rfl, rfl, rfl, by decide +kernel, rfl, by decide +kernel, by decide +kernel⟩
abbrev v_Body (mu : Int) (oblateness : Int) (turn : Pt) : Body := ⟨mu, oblateness, turn⟩
def p_Body (mu : Int) (oblateness : Int) (turn : Pt) : Prop := (1 ≤ mu ∧ mu ≤ 10 ^ 30) ∧ (0 ≤ oblateness ∧ oblateness ≤ 10 ^ 30) ∧ turn = ⟨1, 0, 1⟩
theorem ok_Body {P : Program} {w : World} {K : Fg} {mg : Str → Option Value} {base : Heap} (T : Tx w K mg) : Cok P w K mg base 2 "Body" ["self", "mu", "oblateness", "turn"] [] (spM (He.ga K "Body") (fun a : Int × Int × Pt => p_Body a.1 a.2.1 a.2.2) (fun a => [is K a.1, is K a.2.1, is K a.2.2]) (fun _ => []) (fun a => fBody K (v_Body a.1 a.2.1 a.2.2)) fun _ => eqv .non) := by
  refine cokR (C := "Body") T.fn_Body_init T.glo_Body T.mkr_Body (fun _ _ _ _ _ _ us hl => match us, hl with | [_, _, _, _], _ => rfl) sc_Body_init (fun _ => rfl) (by decide) fun cdv A outer s H E hr y a hp => ?_
  obtain ⟨mu, oblateness, turn⟩ := a
  have nd := sc_Body_init.nd
  have hp : p_Body mu oblateness turn := hp
  show SXs _ _ (as ((G0 (anyV :: [is K mu, is K oblateness, is K turn]) _).set 0 none) (some (ownI y (He.ga K "Body") 0 []))) (exA _ fun Γ => as Γ (some (ownI y (He.ga K "Body") 0 (fBody K (v_Body mu oblateness turn))))) _ _ _
  obtain ⟨⟨h1, h2⟩, ⟨h3, h4⟩, h5⟩ := hp
  subst h5
  have s1 : Sm 2 1 := by unfold Sm; decide
  have s0 : Sm 2 0 := by unfold Sm; decide
  refine sx_cons (sx_expr (c_check T (hr.mono (by decide)) (xs_cons (x_chain op_le op_le x_int (x_var 1 rfl) (x_pow x_int x_int (by unfold CPow; decide))) (xs_cons x_str xs_nil)) (by show (decide (1 ≤ mu) && decide (mu ≤ 10 ^ 30)) = true; rw [decide_eq_true h1, decide_eq_true h2]; rfl))) ?_
  refine sx_cons (sx_expr (c_check T (hr.mono (by decide)) (xs_cons (x_chain op_le op_le x_int (x_var 2 rfl) (x_pow x_int x_int (by unfold CPow; decide))) (xs_cons x_str xs_nil)) (by show (decide (0 ≤ oblateness) && decide (oblateness ≤ 10 ^ 30)) = true; rw [decide_eq_true h3, decide_eq_true h4]; rfl))) ?_
  refine sx_cons (sx_asg (P := tupOf _ [is _ (1 : Int), is _ (0 : Int), is _ (1 : Int)]) (x_var 3 rfl) (g_tup rfl (gs_cons (g_name 4 nd) (gs_cons (g_name 5 nd) (gs_cons (g_name 6 nd) gs_nil))) rfl) (own_ninI (by decide))) ?_
  refine sx_cons (sx_expr (c_check T (hr.mono (by decide)) (xs_cons (x_and (x_chain op_le op_le x_int (x_var 6 rfl) (x_pow x_int x_int (by unfold CPow; decide))) fun _ => x_one (x_eq (x_add (x_mul (x_var 4 rfl) (x_var 4 rfl) (s1.mulW s1)) (x_mul (x_var 5 rfl) (x_var 5 rfl) (s0.mulW s0))) (x_mul (x_var 6 rfl) (x_var 6 rfl) (s1.mulW s1)))) (xs_cons x_str xs_nil)) (by decide))) ?_
  refine sx_cons (sx_fldN T.cls_Body T.noat_Body_mu (show ("mu" : Str) ∉ ([] : List Str) by decide +kernel) (x_var 1 rfl)) ?_
  refine sx_cons (sx_fldN T.cls_Body T.noat_Body_oblateness (show ("oblateness" : Str) ∉ (["mu"] : List Str) by decide +kernel) (x_var 2 rfl)) ?_
  refine sx_cons (sx_fldN T.cls_Body T.noat_Body_turn (show ("turn" : Str) ∉ (["mu", "oblateness"] : List Str) by decide +kernel) (x_var 3 rfl)) ?_
  exact sx_end (exA_in _ trivial (as_own (by rfl)))
theorem c_Body {X : Cx} {Γ : Gm} {o : Option Own} {e1 e2 e3 : Expr} {p pos : Pos} {mu : Int} {oblateness : Int} {turn : Pt} (T : Tx X.w X.K X.mg) (hr : Room 3 X.A) (h : PAX X [e1, e2, e3] Γ o [is X.K mu, is X.K oblateness, is X.K turn]) (hp : p_Body mu oblateness turn) (hg : Gl X "Body" := by rfl) (he : starEach [e1, e2, e3] X.env = (false, eval e1 X.env) :: starEach [e2, e3] X.env := by rfl) (hpl : (backTo pos (starEach [e2, e3] X.env)).any (·.1) = false := by rfl) : PX X (.Call (.Name "Body" p) [e1, e2, e3] [] pos) Γ o (is X.K (v_Body mu oblateness turn)) := x_makeC (Ds := []) (ok_Body T) hr trivial (mu, oblateness, turn) hp h rfl hg (by decide) he hpl
theorem sc_Burn_init : FnScope ["self", "begin", "end", "push"] ["self", "begin", "end", "push"] (defScope st_Burn_init) := ⟨rfl, rfl, rfl, by decide +kernel, rfl, by decide +kernel, by decide +kernel⟩
abbrev v_Burn (begin_ : Int) (end_ : Int) (push : Box) : Burn := ⟨begin_, end_, push⟩
def p_Burn (begin_ : Int) (end_ : Int) (push : Box) : Prop := (0 ≤ begin_ ∧ begin_ < end_ ∧ end_ ≤ 100000) ∧ boxIn MOSTD push
theorem ok_Burn {P : Program} {w : World} {K : Fg} {mg : Str → Option Value} {base : Heap} (T : Tx w K mg) : Cok P w K mg base 2 "Burn" ["self", "begin", "end", "push"] [] (spM (He.ga K "Burn") (fun a : Int × Int × Box => p_Burn a.1 a.2.1 a.2.2) (fun a => [is K a.1, is K a.2.1, is K a.2.2]) (fun _ => []) (fun a => fBurn K (v_Burn a.1 a.2.1 a.2.2)) fun _ => eqv .non) := by
  refine cokR (C := "Burn") T.fn_Burn_init T.glo_Burn T.mkr_Burn (fun _ _ _ _ _ _ us hl => match us, hl with | [_, _, _, _], _ => rfl) sc_Burn_init (fun _ => rfl) (by decide) fun cdv A outer s H E hr y a hp => ?_
  obtain ⟨begin_, end_, push⟩ := a
  have nd := sc_Burn_init.nd
  have hp : p_Burn begin_ end_ push := hp
  show SXs _ _ (as ((G0 (anyV :: [is K begin_, is K end_, is K push]) _).set 0 none) (some (ownI y (He.ga K "Burn") 0 []))) (exA _ fun Γ => as Γ (some (ownI y (He.ga K "Burn") 0 (fBurn K (v_Burn begin_ end_ push))))) _ _ _
  obtain ⟨⟨h1, h2, h3⟩, h4⟩ := hp
  have h5 : begin_ ≤ 100000 := by omega
  have h6 : 0 ≤ end_ := by omega
  refine sx_cons (sx_expr (c_check T (hr.mono (by decide)) (xs_cons (c_is_tick T (hr.mono (by decide)) (xs_cons (x_var 1 rfl) xs_nil)) (xs_cons x_str xs_nil)) (by show (decide (0 ≤ begin_) && decide (begin_ ≤ 100000)) = true; rw [decide_eq_true h1, decide_eq_true h5]; rfl))) ?_
  refine sx_cons (sx_expr (c_check T (hr.mono (by decide)) (xs_cons (x_and (c_is_tick T (hr.mono (by decide)) (xs_cons (x_var 2 rfl) xs_nil)) fun _ => x_one (x_lt (x_var 1 rfl) (x_var 2 rfl))) (xs_cons x_str xs_nil)) (by show (decide (0 ≤ end_) && decide (end_ ≤ 100000) && decide (begin_ < end_)) = true; rw [decide_eq_true h6, decide_eq_true h3, decide_eq_true h2]; rfl))) ?_
  refine sx_cons (sx_expr (c_check T (hr.mono (by decide)) (xs_cons (c_is_box T (hr.mono (by decide)) (xs_cons (x_var 3 rfl) (xs_cons (x_globI T.int_MOST_DRIFT) xs_nil)) h4) (xs_cons x_str xs_nil)) rfl)) ?_
  refine sx_cons (sx_fldN T.cls_Burn T.noat_Burn_begin (show ("begin" : Str) ∉ ([] : List Str) by decide +kernel) (x_var 1 rfl)) ?_
  refine sx_cons (sx_fldN T.cls_Burn T.noat_Burn_end (show ("end" : Str) ∉ (["begin"] : List Str) by decide +kernel) (x_var 2 rfl)) ?_
  refine sx_cons (sx_fldN T.cls_Burn T.noat_Burn_push (show ("push" : Str) ∉ (["begin", "end"] : List Str) by decide +kernel) (x_var 3 rfl)) ?_
  exact sx_end (exA_in _ trivial (as_own (by rfl)))
theorem c_Burn {X : Cx} {Γ : Gm} {o : Option Own} {e1 e2 e3 : Expr} {p pos : Pos} {begin_ : Int} {end_ : Int} {push : Box} (T : Tx X.w X.K X.mg) (hr : Room 3 X.A) (h : PAX X [e1, e2, e3] Γ o [is X.K begin_, is X.K end_, is X.K push]) (hp : p_Burn begin_ end_ push) (hg : Gl X "Burn" := by rfl) (he : starEach [e1, e2, e3] X.env = (false, eval e1 X.env) :: starEach [e2, e3] X.env := by rfl) (hpl : (backTo pos (starEach [e2, e3] X.env)).any (·.1) = false := by rfl) : PX X (.Call (.Name "Burn" p) [e1, e2, e3] [] pos) Γ o (is X.K (v_Burn begin_ end_ push)) := x_makeC (Ds := []) (ok_Burn T) hr trivial (begin_, end_, push) hp h rfl hg (by decide) he hpl
theorem sc_Sighting_init : FnScope ["self", "at", "place"] ["self", "at", "place"] (defScope st_Sighting_init) := ⟨rfl, rfl, rfl, by decide +kernel, rfl, by decide +kernel, by decide +kernel⟩
abbrev v_Sighting (at_ : Int) (place : Box) : Sight := ⟨at_, place⟩
def p_Sighting (at_ : Int) (place : Box) : Prop := (0 ≤ at_ ∧ at_ ≤ 100000) ∧ boxIn MOST place
theorem ok_Sighting {P : Program} {w : World} {K : Fg} {mg : Str → Option Value} {base : Heap} (T : Tx w K mg) : Cok P w K mg base 2 "Sighting" ["self", "at", "place"] [] (spM (He.ga K "Sighting") (fun a : Int × Box => p_Sighting a.1 a.2) (fun a => [is K a.1, is K a.2]) (fun _ => []) (fun a => fSight K (v_Sighting a.1 a.2)) fun _ => eqv .non) := by
  refine cokR (C := "Sighting") T.fn_Sighting_init T.glo_Sighting T.mkr_Sighting (fun _ _ _ _ _ _ us hl => match us, hl with | [_, _, _], _ => rfl) sc_Sighting_init (fun _ => rfl) (by decide) fun cdv A outer s H E hr y a hp => ?_
  obtain ⟨at_, place⟩ := a
  have nd := sc_Sighting_init.nd
  have hp : p_Sighting at_ place := hp
  show SXs _ _ (as ((G0 (anyV :: [is K at_, is K place]) _).set 0 none) (some (ownI y (He.ga K "Sighting") 0 []))) (exA _ fun Γ => as Γ (some (ownI y (He.ga K "Sighting") 0 (fSight K (v_Sighting at_ place))))) _ _ _
  obtain ⟨⟨h1, h2⟩, h3⟩ := hp
  refine sx_cons (sx_expr (c_check T (hr.mono (by decide)) (xs_cons (c_is_tick T (hr.mono (by decide)) (xs_cons (x_var 1 rfl) xs_nil)) (xs_cons x_str xs_nil)) (by show (decide (0 ≤ at_) && decide (at_ ≤ 100000)) = true; rw [decide_eq_true h1, decide_eq_true h2]; rfl))) ?_
  refine sx_cons (sx_expr (c_check T (hr.mono (by decide)) (xs_cons (c_is_box T (hr.mono (by decide)) (xs_cons (x_var 2 rfl) (xs_cons (x_globI T.int_MOST) xs_nil)) h3) (xs_cons x_str xs_nil)) rfl)) ?_
  refine sx_cons (sx_fldN T.cls_Sighting T.noat_Sighting_at (show ("at" : Str) ∉ ([] : List Str) by decide +kernel) (x_var 1 rfl)) ?_
  refine sx_cons (sx_fldN T.cls_Sighting T.noat_Sighting_place (show ("place" : Str) ∉ (["at"] : List Str) by decide +kernel) (x_var 2 rfl)) ?_
  exact sx_end (exA_in _ trivial (as_own (by rfl)))
theorem c_Sighting {X : Cx} {Γ : Gm} {o : Option Own} {e1 e2 : Expr} {p pos : Pos} {at_ : Int} {place : Box} (T : Tx X.w X.K X.mg) (hr : Room 3 X.A) (h : PAX X [e1, e2] Γ o [is X.K at_, is X.K place]) (hp : p_Sighting at_ place) (hg : Gl X "Sighting" := by rfl) (he : starEach [e1, e2] X.env = (false, eval e1 X.env) :: starEach [e2] X.env := by rfl) (hpl : (backTo pos (starEach [e2] X.env)).any (·.1) = false := by rfl) : PX X (.Call (.Name "Sighting" p) [e1, e2] [] pos) Γ o (is X.K (v_Sighting at_ place)) := x_makeC (Ds := []) (ok_Sighting T) hr trivial (at_, place) hp h rfl hg (by decide) he hpl
/-- an __init__ with defaults -/
theorem cokD {P : Program} {w : World} {K : Fg} {mg : Str → Option Value} {base : Heap} {qual : Str} {st : Stmt} {N ps : List Str} {k : Nat} {α : Type} {pre : α → Prop} {Ar : α → List MP} {F1 : α → List (Str × MP)} {C : Str} {dvs : List V} (n j : Nat)
    (F : ∃ fd, FunD K "__init__" qual (defArgs st) (defBody st) (defScope st) dvs [] (He.ma K (He.ga K C) "__init__") fd) (g : mg C = some (.ref (He.ga K C)))
    (M : Mk K (He.ga K C) (He.ma K (He.ga K C) "__init__")) (hd : dvs ≠ []) (hn : n + (dvs.length - j) = ps.length)
    (b : ∀ (T : Addr) (kV doc pm : Value) (an : Option Addr) (cdv ct : Value) (us its : List Value), us.length = n → its.length = dvs.length →
      ∃ k, bindArgs (PySem.W.fnOf "__init__" qual (defArgs st) (defBody st) (defScope st) (.ref T) kV doc pm an cdv ct) ⟨us, []⟩ = seqItems? (.ref T) >>= k ∧ k (some its.toArray) = pure (ps.zip (us ++ its.drop j)))
    (S : FnScope N ps (defScope st)) (hl : ∀ x, (Ar x).length + 1 = ps.length) (hN : 0 < N.length)
    (hb : ∀ (cdv : Value) (A : Around) (outer : List Env) (s : Shared) (H : Hp) (E : XK), Room k (A.deeper (envOfC qual (defScope st) s.heap.objs.size (He.ma K (He.ga K C) "__init__") cdv)) → ∀ y a, pre a →
      SXs (cX P w K mg base N qual (defScope st) (He.ma K (He.ga K C) "__init__") cdv A outer s H E) (defBody st) (as ((G0 (anyV :: Ar a) N.length).set 0 none) (some (ownI y (He.ga K C) 0 []))) (exA (fun _ : Gm => True) fun Γ => as Γ (some (ownI y (He.ga K C) 0 (F1 a)))) noA noA (retO (ownI y (He.ga K C) 0 (F1 a)) (eqv .non))) :
    Cok P w K mg base (k + 1) C ps (dvs.drop j) (spM (He.ga K C) pre Ar (fun _ => []) F1 fun _ => eqv .non) := by
  obtain ⟨fd, F⟩ := F
  obtain ⟨ds, hv, hbd⟩ := F.binds1 n j hd hn b
  exact ⟨⟨fd, ds, me_ok F S (fun y a => exA (fun _ : Gm => True) fun Γ => as Γ (some (ownI y (He.ga K C) 0 (F1 a)))) hl hN (fun y a _ B0 H0 σ H ⟨Γ, _, h⟩ => as_retO (fun _ => rfl) _ _ _ _ h) hb, hv, hbd⟩, g, M⟩
theorem dfl_Craft {w : World} {K : Fg} {mg : Str → Option Value} (T : Tx w K mg) : AllR [is K (Sq.tp ([] : List Burn)), is K (Sq.tp ([] : List Sight))] (fun _ => none) ([V.ref (dCraft 0 K), V.ref (dCraft 1 K)].drop 0) := by
  have m := He.ba T.more
  have m := He.ba m.2
  have m := He.ba m.2
  have m := He.ba m.2
  have m := He.ba m.2
  have m := He.ba m.2
  have m := He.ba m.2
  have m2 := He.ba m.2
  exact ⟨⟨_, _, rfl, tupA_ok m.1 _, trivial⟩, ⟨_, _, rfl, tupA_ok m2.1 _, trivial⟩, trivial⟩
theorem dfl_Contents {w : World} {K : Fg} {mg : Str → Option Value} (T : Tx w K mg) : AllR [is K (Sq.tp ([] : List Craft)), is K (Sq.tp ([] : List Craft))] (fun _ => none) ([V.ref (dConts 0 K), V.ref (dConts 1 K)].drop 0) := by
  have m := He.ba T.more
  have m := He.ba m.2
  have m := He.ba m.2
  have m := He.ba m.2
  have m := He.ba m.2
  have m := He.ba m.2
  have m := He.ba m.2
  have m := He.ba m.2
  have m := He.ba m.2
  have m2 := He.ba m.2
  exact ⟨⟨_, _, rfl, tupA_ok m.1 _, trivial⟩, ⟨_, _, rfl, tupA_ok m2.1 _, trivial⟩, trivial⟩
theorem sc_Craft_init : FnScope ["self", "name", "start", "place", "speed", "drift", "burns", "sightings"] ["self", "name", "start", "place", "speed", "drift", "burns", "sightings"] (defScope st_Craft_init) := ⟨rfl, rfl, rfl, by decide +kernel, rfl, by decide +kernel, by decide +kernel⟩
abbrev v_Craft (name : Str) (start : Int) (place : Box) (speed : Box) (drift : Int) (burns : Sq (Burn)) (sightings : Sq (Sight)) : Craft := ⟨name, start, place, speed, drift, ⟨burns.v⟩, ⟨sightings.v⟩⟩
def p_Craft (name : Str) (start : Int) (place : Box) (speed : Box) (drift : Int) (burns : Sq (Burn)) (sightings : Sq (Sight)) : Prop := nameOk name ∧ (0 ≤ start ∧ start ≤ 100000) ∧ boxIn MOST place ∧ boxIn MOST speed ∧ (0 ≤ drift ∧ drift ≤ MOSTD)
theorem body_Craft {P : Program} {w : World} {K : Fg} {mg : Str → Option Value} {base : Heap} (T : Tx w K mg) (cdv : Value) (A : Around) (outer : List Env) (s : Shared) (H : Hp) (E : XK) (hr : Room 2 (A.deeper (envOfC "Craft.__init__" (defScope st_Craft_init) s.heap.objs.size (He.ma K (He.ga K "Craft") "__init__") cdv))) (y : Addr) (a : Str × Int × Box × Box × Int × Sq (Burn) × Sq (Sight)) (hp : p_Craft a.1 a.2.1 a.2.2.1 a.2.2.2.1 a.2.2.2.2.1 a.2.2.2.2.2.1 a.2.2.2.2.2.2) : SXs (cX P w K mg base ["self", "name", "start", "place", "speed", "drift", "burns", "sightings"] "Craft.__init__" (defScope st_Craft_init) (He.ma K (He.ga K "Craft") "__init__") cdv A outer s H E) (defBody st_Craft_init) (as ((G0 (anyV :: [is K a.1, is K a.2.1, is K a.2.2.1, is K a.2.2.2.1, is K a.2.2.2.2.1, is K a.2.2.2.2.2.1, is K a.2.2.2.2.2.2]) (["self", "name", "start", "place", "speed", "drift", "burns", "sightings"] : List Str).length).set 0 none) (some (ownI y (He.ga K "Craft") 0 []))) (exA (fun _ : Gm => True) fun Γ => as Γ (some (ownI y (He.ga K "Craft") 0 (fCraft K (v_Craft a.1 a.2.1 a.2.2.1 a.2.2.2.1 a.2.2.2.2.1 a.2.2.2.2.2.1 a.2.2.2.2.2.2))))) noA noA (retO (ownI y (He.ga K "Craft") 0 (fCraft K (v_Craft a.1 a.2.1 a.2.2.1 a.2.2.2.1 a.2.2.2.2.1 a.2.2.2.2.2.1 a.2.2.2.2.2.2))) (eqv .non)) := by
  obtain ⟨name, start, place, speed, drift, burns, sightings⟩ := a
  have nd := sc_Craft_init.nd
  have hp : p_Craft name start place speed drift burns sightings := hp
  show SXs _ _ (as ((G0 (anyV :: [is K name, is K start, is K place, is K speed, is K drift, is K burns, is K sightings]) _).set 0 none) (some (ownI y (He.ga K "Craft") 0 []))) (exA _ fun Γ => as Γ (some (ownI y (He.ga K "Craft") 0 (fCraft K (v_Craft name start place speed drift burns sightings))))) _ _ _
  obtain ⟨h1, ⟨h2, h3⟩, h4, h5, ⟨h6, h7⟩⟩ := hp
  refine sx_cons (sx_expr (c_check T (hr.mono (by decide)) (xs_cons (c_is_name T (hr.mono (by decide)) (xs_cons (x_var 1 rfl) xs_nil) h1) (xs_cons x_str xs_nil)) rfl)) ?_
  refine sx_cons (sx_expr (c_check T (hr.mono (by decide)) (xs_cons (c_is_tick T (hr.mono (by decide)) (xs_cons (x_var 2 rfl) xs_nil)) (xs_cons x_str xs_nil)) (by show (decide (0 ≤ start) && decide (start ≤ 100000)) = true; rw [decide_eq_true h2, decide_eq_true h3]; rfl))) ?_
  refine sx_cons (sx_expr (c_check T (hr.mono (by decide)) (xs_cons (c_is_box T (hr.mono (by decide)) (xs_cons (x_var 3 rfl) (xs_cons (x_globI T.int_MOST) xs_nil)) h4) (xs_cons x_str xs_nil)) rfl)) ?_
  refine sx_cons (sx_expr (c_check T (hr.mono (by decide)) (xs_cons (c_is_box T (hr.mono (by decide)) (xs_cons (x_var 4 rfl) (xs_cons (x_globI T.int_MOST) xs_nil)) h5) (xs_cons x_str xs_nil)) rfl)) ?_
  refine sx_cons (sx_expr (c_check T (hr.mono (by decide)) (xs_cons (x_chain op_le op_le x_int (x_var 5 rfl) (x_globI T.int_MOST_DRIFT)) (xs_cons x_str xs_nil)) (by show (decide (0 ≤ drift) && decide (drift ≤ MOSTD)) = true; rw [decide_eq_true h6, decide_eq_true h7]; rfl))) ?_
  refine sx_cons (sx_fldN T.cls_Craft T.noat_Craft_name (show ("name" : Str) ∉ ([] : List Str) by decide +kernel) (x_var 1 rfl)) ?_
  refine sx_cons (sx_fldN T.cls_Craft T.noat_Craft_start (show ("start" : Str) ∉ (["name"] : List Str) by decide +kernel) (x_var 2 rfl)) ?_
  refine sx_cons (sx_fldN T.cls_Craft T.noat_Craft_place (show ("place" : Str) ∉ (["name", "start"] : List Str) by decide +kernel) (x_var 3 rfl)) ?_
  refine sx_cons (sx_fldN T.cls_Craft T.noat_Craft_speed (show ("speed" : Str) ∉ (["name", "start", "place"] : List Str) by decide +kernel) (x_var 4 rfl)) ?_
  refine sx_cons (sx_fldN T.cls_Craft T.noat_Craft_drift (show ("drift" : Str) ∉ (["name", "start", "place", "speed"] : List Str) by decide +kernel) (x_var 5 rfl)) ?_
  refine sx_cons (sx_fldN T.cls_Craft T.noat_Craft_burns (show ("burns" : Str) ∉ (["name", "start", "place", "speed", "drift"] : List Str) by decide +kernel) (x_tupS T.free_tuple (xs_cons (x_var 6 rfl) xs_nil))) ?_
  refine sx_cons (sx_fldN T.cls_Craft T.noat_Craft_sightings (show ("sightings" : Str) ∉ (["name", "start", "place", "speed", "drift", "burns"] : List Str) by decide +kernel) (x_tupS T.free_tuple (xs_cons (x_var 7 rfl) xs_nil))) ?_
  exact sx_end (exA_in _ trivial (as_own (by rfl)))
theorem ok_Craft {P : Program} {w : World} {K : Fg} {mg : Str → Option Value} {base : Heap} (T : Tx w K mg) : Cok P w K mg base 3 "Craft" ["self", "name", "start", "place", "speed", "drift", "burns", "sightings"] ([.ref (dCraft 0 K), .ref (dCraft 1 K)].drop 2) (spM (He.ga K "Craft") (fun a : Str × Int × Box × Box × Int × Sq (Burn) × Sq (Sight) => p_Craft a.1 a.2.1 a.2.2.1 a.2.2.2.1 a.2.2.2.2.1 a.2.2.2.2.2.1 a.2.2.2.2.2.2) (fun a => [is K a.1, is K a.2.1, is K a.2.2.1, is K a.2.2.2.1, is K a.2.2.2.2.1, is K a.2.2.2.2.2.1, is K a.2.2.2.2.2.2]) (fun _ => []) (fun a => fCraft K (v_Craft a.1 a.2.1 a.2.2.1 a.2.2.2.1 a.2.2.2.2.1 a.2.2.2.2.2.1 a.2.2.2.2.2.2)) fun _ => eqv .non) :=
  cokD (C := "Craft") (dvs := [.ref (dCraft 0 K), .ref (dCraft 1 K)]) 8 2 T.fn_Craft_init T.glo_Craft T.mkr_Craft (by simp) rfl (fun _ _ _ _ _ _ _ us its hl hi => match us, its, hl, hi with | [_, _, _, _, _, _, _, _], [_, _], _, _ => ⟨_, rfl, rfl⟩) sc_Craft_init (fun _ => rfl) (by decide) (body_Craft T)
theorem c_Craft {X : Cx} {Γ : Gm} {o : Option Own} {e1 e2 e3 e4 e5 e6 e7 : Expr} {p pos : Pos} {name : Str} {start : Int} {place : Box} {speed : Box} {drift : Int} {burns : Sq (Burn)} {sightings : Sq (Sight)} (T : Tx X.w X.K X.mg) (hr : Room 4 X.A) (h : PAX X [e1, e2, e3, e4, e5, e6, e7] Γ o [is X.K name, is X.K start, is X.K place, is X.K speed, is X.K drift, is X.K burns, is X.K sightings]) (hp : p_Craft name start place speed drift burns sightings) (hg : Gl X "Craft" := by rfl) (he : starEach [e1, e2, e3, e4, e5, e6, e7] X.env = (false, eval e1 X.env) :: starEach [e2, e3, e4, e5, e6, e7] X.env := by rfl) (hpl : (backTo pos (starEach [e2, e3, e4, e5, e6, e7] X.env)).any (·.1) = false := by rfl) : PX X (.Call (.Name "Craft" p) [e1, e2, e3, e4, e5, e6, e7] [] pos) Γ o (is X.K (v_Craft name start place speed drift burns sightings)) := x_makeC (Ds := []) (ok_Craft T) hr trivial (name, start, place, speed, drift, burns, sightings) hp h rfl hg (by decide) he hpl
theorem ok_Craft0 {P : Program} {w : World} {K : Fg} {mg : Str → Option Value} {base : Heap} (T : Tx w K mg) : Cok P w K mg base 3 "Craft" ["self", "name", "start", "place", "speed", "drift", "burns", "sightings"] ([.ref (dCraft 0 K), .ref (dCraft 1 K)].drop 0) (spM (He.ga K "Craft") (fun a : Str × Int × Box × Box × Int × Sq (Burn) × Sq (Sight) => p_Craft a.1 a.2.1 a.2.2.1 a.2.2.2.1 a.2.2.2.2.1 a.2.2.2.2.2.1 a.2.2.2.2.2.2) (fun a => [is K a.1, is K a.2.1, is K a.2.2.1, is K a.2.2.2.1, is K a.2.2.2.2.1, is K a.2.2.2.2.2.1, is K a.2.2.2.2.2.2]) (fun _ => []) (fun a => fCraft K (v_Craft a.1 a.2.1 a.2.2.1 a.2.2.2.1 a.2.2.2.2.1 a.2.2.2.2.2.1 a.2.2.2.2.2.2)) fun _ => eqv .non) :=
  cokD (C := "Craft") (dvs := [.ref (dCraft 0 K), .ref (dCraft 1 K)]) 6 0 T.fn_Craft_init T.glo_Craft T.mkr_Craft (by simp) rfl (fun _ _ _ _ _ _ _ us its hl hi => match us, its, hl, hi with | [_, _, _, _, _, _], [_, _], _, _ => ⟨_, rfl, rfl⟩) sc_Craft_init (fun _ => rfl) (by decide) (body_Craft T)
theorem c_Craft0 {X : Cx} {Γ : Gm} {o : Option Own} {e1 e2 e3 e4 e5 : Expr} {p pos : Pos} {name : Str} {start : Int} {place : Box} {speed : Box} {drift : Int} (T : Tx X.w X.K X.mg) (hr : Room 4 X.A) (h : PAX X [e1, e2, e3, e4, e5] Γ o [is X.K name, is X.K start, is X.K place, is X.K speed, is X.K drift]) (hp : p_Craft name start place speed drift (.tp []) (.tp [])) (hg : Gl X "Craft" := by rfl) (he : starEach [e1, e2, e3, e4, e5] X.env = (false, eval e1 X.env) :: starEach [e2, e3, e4, e5] X.env := by rfl) (hpl : (backTo pos (starEach [e2, e3, e4, e5] X.env)).any (·.1) = false := by rfl) : PX X (.Call (.Name "Craft" p) [e1, e2, e3, e4, e5] [] pos) Γ o (is X.K (v_Craft name start place speed drift (.tp []) (.tp []))) := x_makeC (Ds := [is X.K (Sq.tp ([] : List Burn)), is X.K (Sq.tp ([] : List Sight))]) (ok_Craft0 T) hr (dfl_Craft T) (name, start, place, speed, drift, .tp [], .tp []) hp h rfl hg (by decide) he hpl
theorem sc_Contents_init : FnScope ["self", "body", "stride", "fineness", "crafts", "sites"] ["self", "body", "stride", "fineness", "crafts", "sites"] (defScope st_Contents_init) := ⟨rfl, rfl, rfl, by decide +kernel, rfl, by decide +kernel, by decide +kernel⟩
abbrev v_Contents (body_ : Body) (stride : Int) (fineness : Int) (crafts : Sq (Craft)) (sites : Sq (Craft)) : Conts := ⟨body_, stride, fineness, ⟨crafts.v⟩, ⟨sites.v⟩⟩
def p_Contents (body_ : Body) (stride : Int) (fineness : Int) (crafts : Sq (Craft)) (sites : Sq (Craft)) : Prop := (1 ≤ stride ∧ stride ≤ 1000) ∧ (0 ≤ fineness ∧ fineness ≤ 6)
theorem body_Contents {P : Program} {w : World} {K : Fg} {mg : Str → Option Value} {base : Heap} (T : Tx w K mg) (cdv : Value) (A : Around) (outer : List Env) (s : Shared) (H : Hp) (E : XK) (hr : Room 2 (A.deeper (envOfC "Contents.__init__" (defScope st_Contents_init) s.heap.objs.size (He.ma K (He.ga K "Contents") "__init__") cdv))) (y : Addr) (a : Body × Int × Int × Sq (Craft) × Sq (Craft)) (hp : p_Contents a.1 a.2.1 a.2.2.1 a.2.2.2.1 a.2.2.2.2) : SXs (cX P w K mg base ["self", "body", "stride", "fineness", "crafts", "sites"] "Contents.__init__" (defScope st_Contents_init) (He.ma K (He.ga K "Contents") "__init__") cdv A outer s H E) (defBody st_Contents_init) (as ((G0 (anyV :: [is K a.1, is K a.2.1, is K a.2.2.1, is K a.2.2.2.1, is K a.2.2.2.2]) (["self", "body", "stride", "fineness", "crafts", "sites"] : List Str).length).set 0 none) (some (ownI y (He.ga K "Contents") 0 []))) (exA (fun _ : Gm => True) fun Γ => as Γ (some (ownI y (He.ga K "Contents") 0 (fConts K (v_Contents a.1 a.2.1 a.2.2.1 a.2.2.2.1 a.2.2.2.2))))) noA noA (retO (ownI y (He.ga K "Contents") 0 (fConts K (v_Contents a.1 a.2.1 a.2.2.1 a.2.2.2.1 a.2.2.2.2))) (eqv .non)) := by
  obtain ⟨body_, stride, fineness, crafts, sites⟩ := a
  have nd := sc_Contents_init.nd
  have hp : p_Contents body_ stride fineness crafts sites := hp
  show SXs _ _ (as ((G0 (anyV :: [is K body_, is K stride, is K fineness, is K crafts, is K sites]) _).set 0 none) (some (ownI y (He.ga K "Contents") 0 []))) (exA _ fun Γ => as Γ (some (ownI y (He.ga K "Contents") 0 (fConts K (v_Contents body_ stride fineness crafts sites))))) _ _ _
  obtain ⟨⟨h1, h2⟩, ⟨h3, h4⟩⟩ := hp
  refine sx_cons (sx_expr (c_check T (hr.mono (by decide)) (xs_cons (x_chain op_le op_le x_int (x_var 2 rfl) x_int) (xs_cons x_str xs_nil)) (by rw [decide_eq_true h1, decide_eq_true h2]; rfl))) ?_
  refine sx_cons (sx_expr (c_check T (hr.mono (by decide)) (xs_cons (x_chain op_le op_le x_int (x_var 3 rfl) x_int) (xs_cons x_str xs_nil)) (by rw [decide_eq_true h3, decide_eq_true h4]; rfl))) ?_
  refine sx_cons (sx_fldN T.cls_Contents T.noat_Contents_body (show ("body" : Str) ∉ ([] : List Str) by decide +kernel) (x_var 1 rfl)) ?_
  refine sx_cons (sx_fldN T.cls_Contents T.noat_Contents_stride (show ("stride" : Str) ∉ (["body"] : List Str) by decide +kernel) (x_var 2 rfl)) ?_
  refine sx_cons (sx_fldN T.cls_Contents T.noat_Contents_fineness (show ("fineness" : Str) ∉ (["body", "stride"] : List Str) by decide +kernel) (x_var 3 rfl)) ?_
  refine sx_cons (sx_fldN T.cls_Contents T.noat_Contents_crafts (show ("crafts" : Str) ∉ (["body", "stride", "fineness"] : List Str) by decide +kernel) (x_tupS T.free_tuple (xs_cons (x_var 4 rfl) xs_nil))) ?_
  refine sx_cons (sx_fldN T.cls_Contents T.noat_Contents_sites (show ("sites" : Str) ∉ (["body", "stride", "fineness", "crafts"] : List Str) by decide +kernel) (x_tupS T.free_tuple (xs_cons (x_var 5 rfl) xs_nil))) ?_
  exact sx_end (exA_in _ trivial (as_own (by rfl)))
theorem ok_Contents {P : Program} {w : World} {K : Fg} {mg : Str → Option Value} {base : Heap} (T : Tx w K mg) : Cok P w K mg base 3 "Contents" ["self", "body", "stride", "fineness", "crafts", "sites"] ([.ref (dConts 0 K), .ref (dConts 1 K)].drop 2) (spM (He.ga K "Contents") (fun a : Body × Int × Int × Sq (Craft) × Sq (Craft) => p_Contents a.1 a.2.1 a.2.2.1 a.2.2.2.1 a.2.2.2.2) (fun a => [is K a.1, is K a.2.1, is K a.2.2.1, is K a.2.2.2.1, is K a.2.2.2.2]) (fun _ => []) (fun a => fConts K (v_Contents a.1 a.2.1 a.2.2.1 a.2.2.2.1 a.2.2.2.2)) fun _ => eqv .non) :=
  cokD (C := "Contents") (dvs := [.ref (dConts 0 K), .ref (dConts 1 K)]) 6 2 T.fn_Contents_init T.glo_Contents T.mkr_Contents (by simp) rfl (fun _ _ _ _ _ _ _ us its hl hi => match us, its, hl, hi with | [_, _, _, _, _, _], [_, _], _, _ => ⟨_, rfl, rfl⟩) sc_Contents_init (fun _ => rfl) (by decide) (body_Contents T)
theorem c_Contents {X : Cx} {Γ : Gm} {o : Option Own} {e1 e2 e3 e4 e5 : Expr} {p pos : Pos} {body_ : Body} {stride : Int} {fineness : Int} {crafts : Sq (Craft)} {sites : Sq (Craft)} (T : Tx X.w X.K X.mg) (hr : Room 4 X.A) (h : PAX X [e1, e2, e3, e4, e5] Γ o [is X.K body_, is X.K stride, is X.K fineness, is X.K crafts, is X.K sites]) (hp : p_Contents body_ stride fineness crafts sites) (hg : Gl X "Contents" := by rfl) (he : starEach [e1, e2, e3, e4, e5] X.env = (false, eval e1 X.env) :: starEach [e2, e3, e4, e5] X.env := by rfl) (hpl : (backTo pos (starEach [e2, e3, e4, e5] X.env)).any (·.1) = false := by rfl) : PX X (.Call (.Name "Contents" p) [e1, e2, e3, e4, e5] [] pos) Γ o (is X.K (v_Contents body_ stride fineness crafts sites)) := x_makeC (Ds := []) (ok_Contents T) hr trivial (body_, stride, fineness, crafts, sites) hp h rfl hg (by decide) he hpl
theorem ok_Contents0 {P : Program} {w : World} {K : Fg} {mg : Str → Option Value} {base : Heap} (T : Tx w K mg) : Cok P w K mg base 3 "Contents" ["self", "body", "stride", "fineness", "crafts", "sites"] ([.ref (dConts 0 K), .ref (dConts 1 K)].drop 0) (spM (He.ga K "Contents") (fun a : Body × Int × Int × Sq (Craft) × Sq (Craft) => p_Contents a.1 a.2.1 a.2.2.1 a.2.2.2.1 a.2.2.2.2) (fun a => [is K a.1, is K a.2.1, is K a.2.2.1, is K a.2.2.2.1, is K a.2.2.2.2]) (fun _ => []) (fun a => fConts K (v_Contents a.1 a.2.1 a.2.2.1 a.2.2.2.1 a.2.2.2.2)) fun _ => eqv .non) :=
  cokD (C := "Contents") (dvs := [.ref (dConts 0 K), .ref (dConts 1 K)]) 4 0 T.fn_Contents_init T.glo_Contents T.mkr_Contents (by simp) rfl (fun _ _ _ _ _ _ _ us its hl hi => match us, its, hl, hi with | [_, _, _, _], [_, _], _, _ => ⟨_, rfl, rfl⟩) sc_Contents_init (fun _ => rfl) (by decide) (body_Contents T)
theorem c_Contents0 {X : Cx} {Γ : Gm} {o : Option Own} {e1 e2 e3 : Expr} {p pos : Pos} {body_ : Body} {stride : Int} {fineness : Int} (T : Tx X.w X.K X.mg) (hr : Room 4 X.A) (h : PAX X [e1, e2, e3] Γ o [is X.K body_, is X.K stride, is X.K fineness]) (hp : p_Contents body_ stride fineness (.tp []) (.tp [])) (hg : Gl X "Contents" := by rfl) (he : starEach [e1, e2, e3] X.env = (false, eval e1 X.env) :: starEach [e2, e3] X.env := by rfl) (hpl : (backTo pos (starEach [e2, e3] X.env)).any (·.1) = false := by rfl) : PX X (.Call (.Name "Contents" p) [e1, e2, e3] [] pos) Γ o (is X.K (v_Contents body_ stride fineness (.tp []) (.tp []))) := x_makeC (Ds := [is X.K (Sq.tp ([] : List Craft)), is X.K (Sq.tp ([] : List Craft))]) (ok_Contents0 T) hr (dfl_Contents T) (body_, stride, fineness, .tp [], .tp []) hp h rfl hg (by decide) he hpl
end Or
set_option maxHeartbeats 400000
namespace Or
open PySem PySem.Spec PyProof.Rows L2 L3
local macro_rules | `(tactic| walk_at "gle") => `(tactic| (repeat (first | exact GLe.nil | refine GLe.keep ?_ | refine GLe.drop ?_)))
theorem filt_id {α : Type} {xs : List α} {p : α → Bool} : (xs.filter p).map (fun r => r) = xs.filter p := List.map_id' _
theorem filt_len {α : Type} {xs : List α} {p : α → Bool} : (xs.filter p).length ≤ xs.length := List.length_filter_le ..
theorem find_some_mem {l : List Craft} {n : Str} (h : (findC l n).isSome = true) : ∃ c, findC l n = some c ∧ c ∈ l ∧ c.name = n := by
  cases e : findC l n with
  | none => rw [e] at h; cases h
  | some c => exact ⟨c, rfl, List.mem_of_find?_eq_some e, of_decide_eq_true (List.find?_some (p := nameEq n) e)⟩
theorem craftOf_ok {k : Conts} (h : KV k) {n : Str} (hf : (findC k.crafts.l n).isSome = true) : CV (craftOf k n) ∧ (craftOf k n).name = n ∧ craftOf k n ∈ k.crafts.l := by
  obtain ⟨c, e, hm, hn⟩ := find_some_mem hf
  unfold craftOf
  rw [e]
  exact ⟨h.cr c hm, hn, hm⟩
theorem sc_find_named : FnScope ["rows", "name", "row"] ["rows", "name"] (defScope st_find_named) := ⟨rfl, rfl, rfl, by decide +kernel, rfl, by decide +kernel, by decide +kernel⟩
abbrev v_find_named (rows : Tup (Craft)) (name : Str) : Option (Craft) := findC rows.l name
theorem ok_find_named {P : Program} {w : World} {K : Fg} {mg : Str → Option Value} {base : Heap} (T : Tx w K mg) : Fok P w K mg base 1 "find_named" ["rows", "name"] (spF (fun a : Tup (Craft) × Str => True) (fun a : Tup (Craft) × Str => [is K a.1, is K a.2]) fun a => is K (v_find_named a.1 a.2)) := by
  refine fokR T.fn_find_named T.glo_find_named (fun _ _ _ _ _ _ us hl => match us, hl with | [_, _], _ => rfl) sc_find_named (fun _ => rfl) fun cdv A outer s H E hr a hp => ?_
  obtain ⟨rows, name⟩ := a
  have nd := sc_find_named.nd
  show SXs _ _ (as (G0 [is K rows, is K name] _) none) _ _ _ (retV (is K (v_find_named rows name)))
  refine sx_forS 2 nd rows.l (fun k => ∀ (j : Nat) (z : Craft), j < k → rows.l[j]? = some z → nameEq name z = false) (i_T (x_var 0 rfl)) (fun j z h => absurd h (Nat.not_lt_zero j)) (fun k a ha hk => ?_) (fun hk => ?_)
  · refine sx_ifx (t_eqS (f_Craft_name T (x_var 2 rfl)) (x_var 1 rfl)) (fun h => ?_) (fun h => ?_)
    · exact sx_last (sx_retS (x_var 2 rfl) (find_at (p := nameEq name) ha h hk).symm)
    · exact sx_endS1 (upto (p := nameEq name) ha h hk) rfl
  · exact sx_last (sx_retNo x_non (find_no (p := nameEq name) fun j z hz => hk j z (lt_of hz) hz).symm)
theorem c_find_named {X : Cx} {Γ : Gm} {o : Option Own} {e1 e2 : Expr} {p pos : Pos} {rows : Tup (Craft)} {name : Str} (T : Tx X.w X.K X.mg) (hr : Room 1 X.A) (h : PAX X [e1, e2] Γ o [is X.K rows, is X.K name]) (hg : Gl X "find_named" := by rfl) (he : starEach [e1, e2] X.env = (false, eval e1 X.env) :: starEach [e2] X.env := by rfl) (hpl : (backTo pos (starEach [e2] X.env)).any (·.1) = false := by rfl) : PX X (.Call (.Name "find_named" p) [e1, e2] [] pos) Γ o (is X.K (v_find_named rows name)) := x_callF (ok_find_named T) hr (rows, name) trivial h rfl hg (by decide) he hpl
theorem sc_put_named : FnScope ["rows", "thing", "before", "after", "row"] ["rows", "thing"] (defScope st_put_named) := ⟨rfl, rfl, rfl, by decide +kernel, rfl, by decide +kernel, by decide +kernel⟩
abbrev v_put_named (rows : Tup (Craft)) (thing : Craft) : Tup (Craft) := ⟨putC rows.l thing⟩
def p_put_named (rows : Tup (Craft)) (thing : Craft) : Prop := rows.l.length ≤ 300
theorem ok_put_named {P : Program} {w : World} {K : Fg} {mg : Str → Option Value} {base : Heap} (T : Tx w K mg) : Fok P w K mg base 1 "put_named" ["rows", "thing"] (spF (fun a : Tup (Craft) × Craft => p_put_named a.1 a.2) (fun a : Tup (Craft) × Craft => [is K a.1, is K a.2]) fun a => is K (v_put_named a.1 a.2)) := by
  refine fokR T.fn_put_named T.glo_put_named (fun _ _ _ _ _ _ us hl => match us, hl with | [_, _], _ => rfl) sc_put_named (fun _ => rfl) fun cdv A outer s H E hr a hp => ?_
  obtain ⟨rows, thing⟩ := a
  have nd := sc_put_named.nd
  have hp : p_put_named rows thing := hp
  show SXs _ _ (as (G0 [is K rows, is K thing] _) none) _ _ _ (retV (is K (v_put_named rows thing)))
  have hp : rows.l.length ≤ 300 := hp
  refine sx_cons (sx_lc 2 [("row", 4)] (fun r : Craft => strLt r.name thing.name) (fun r : Craft => r) nd (i_T (x_var 0 rfl)) (show rows.l.length ≤ 1000 by omega) no_own (blkOk_by (own := [("row", 4)]) (N := ["rows", "thing", "before", "after", "row"]) (sc := defScope st_put_named) (by decide +kernel)) (fun a ha => ⟨_, [4], by decide, fun s H C cl fp => ⟨g_name 4 nd, ts_one (t_ltS (f_Craft_name T (x_var 4 rfl)) (f_Craft_name T (x_var 1 rfl))), fun _ => x_var 4 rfl⟩⟩) (by rfl)) ?_
  refine sx_cons (sx_lc 3 [("row", 4)] (fun r : Craft => strLt thing.name r.name) (fun r : Craft => r) nd (i_T (x_var 0 rfl)) (show rows.l.length ≤ 1000 by omega) no_own (blkOk_by (own := [("row", 4)]) (N := ["rows", "thing", "before", "after", "row"]) (sc := defScope st_put_named) (by decide +kernel)) (fun a ha => ⟨_, [4], by decide, fun s H C cl fp => ⟨g_name 4 nd, ts_one (t_gtS (f_Craft_name T (x_var 4 rfl)) (f_Craft_name T (x_var 1 rfl))), fun _ => x_var 4 rfl⟩⟩) (by rfl)) ?_
  rw [filt_id, filt_id]
  have l1 := filt_len (xs := rows.l) (p := fun r => strLt r.name thing.name)
  have l2 := filt_len (xs := rows.l) (p := fun r => strLt thing.name r.name)
  refine sx_last (sx_retD (x := (⟨putC rows.l thing⟩ : Tup Craft)) (PX.eq (x_tupL T.free_tuple (xs_cons (x_cat (x_cat (x_var 2 rfl) (x_lst (xs_cons (x_var 1 rfl) xs_nil)) ?_) (x_var 3 rfl) ?_) xs_nil)) ?_) rfl)
  · rw [List.length_map, List.length_singleton]
    omega
  · rw [List.length_append, List.length_map, List.length_map, List.length_singleton]
    omega
  · show _ = tupOf K ((putC rows.l thing).map (is K))
    unfold putC
    rw [List.map_append, List.map_append]
    rfl
theorem c_put_named {X : Cx} {Γ : Gm} {o : Option Own} {e1 e2 : Expr} {p pos : Pos} {rows : Tup (Craft)} {thing : Craft} (T : Tx X.w X.K X.mg) (hr : Room 1 X.A) (h : PAX X [e1, e2] Γ o [is X.K rows, is X.K thing]) (hp : p_put_named rows thing) (hg : Gl X "put_named" := by rfl) (he : starEach [e1, e2] X.env = (false, eval e1 X.env) :: starEach [e2] X.env := by rfl) (hpl : (backTo pos (starEach [e2] X.env)).any (·.1) = false := by rfl) : PX X (.Call (.Name "put_named" p) [e1, e2] [] pos) Γ o (is X.K (v_put_named rows thing)) := x_callF (ok_put_named T) hr (rows, thing) hp h rfl hg (by decide) he hpl
theorem sc_drop_named : FnScope ["rows", "name", "row"] ["rows", "name"] (defScope st_drop_named) := ⟨rfl, rfl, rfl, by decide +kernel, rfl, by decide +kernel, by decide +kernel⟩
abbrev v_drop_named (rows : Tup (Craft)) (name : Str) : Tup (Craft) := ⟨dropC rows.l name⟩
def p_drop_named (rows : Tup (Craft)) (name : Str) : Prop := rows.l.length ≤ 300
theorem ok_drop_named {P : Program} {w : World} {K : Fg} {mg : Str → Option Value} {base : Heap} (T : Tx w K mg) : Fok P w K mg base 1 "drop_named" ["rows", "name"] (spF (fun a : Tup (Craft) × Str => p_drop_named a.1 a.2) (fun a : Tup (Craft) × Str => [is K a.1, is K a.2]) fun a => is K (v_drop_named a.1 a.2)) := by
  refine fokR T.fn_drop_named T.glo_drop_named (fun _ _ _ _ _ _ us hl => match us, hl with | [_, _], _ => rfl) sc_drop_named (fun _ => rfl) fun cdv A outer s H E hr a hp => ?_
  obtain ⟨rows, name⟩ := a
  have nd := sc_drop_named.nd
  have hp : p_drop_named rows name := hp
  show SXs _ _ (as (G0 [is K rows, is K name] _) none) _ _ _ (retV (is K (v_drop_named rows name)))
  have hp : rows.l.length ≤ 300 := hp
  refine sx_last (sx_retD (x := (⟨dropC rows.l name⟩ : Tup Craft)) (PX.eq (x_tupL T.free_tuple (xs_cons (x_lc [("row", 2)] (fun r : Craft => !decide (r.name = name)) (fun r : Craft => r) nd (i_T (x_var 0 rfl)) (show rows.l.length ≤ 1000 by omega) no_own (blkOk_by (own := [("row", 2)]) (N := ["rows", "name", "row"]) (sc := defScope st_drop_named) (by decide +kernel)) (fun a ha => ⟨_, [2], by decide, fun s H C cl fp => ⟨g_name 2 nd, ts_one (t_neS (f_Craft_name T (x_var 2 rfl)) (x_var 1 rfl)), fun _ => x_var 2 rfl⟩⟩)) xs_nil)) ?_) rfl)
  rw [filt_id]
  rfl
theorem c_drop_named {X : Cx} {Γ : Gm} {o : Option Own} {e1 e2 : Expr} {p pos : Pos} {rows : Tup (Craft)} {name : Str} (T : Tx X.w X.K X.mg) (hr : Room 1 X.A) (h : PAX X [e1, e2] Γ o [is X.K rows, is X.K name]) (hp : p_drop_named rows name) (hg : Gl X "drop_named" := by rfl) (he : starEach [e1, e2] X.env = (false, eval e1 X.env) :: starEach [e2] X.env := by rfl) (hpl : (backTo pos (starEach [e2] X.env)).any (·.1) = false := by rfl) : PX X (.Call (.Name "drop_named" p) [e1, e2] [] pos) Γ o (is X.K (v_drop_named rows name)) := x_callF (ok_drop_named T) hr (rows, name) hp h rfl hg (by decide) he hpl
theorem sc_craft_of : FnScope ["contents", "name", "craft"] ["contents", "name"] (defScope st_craft_of) := ⟨rfl, rfl, rfl, by decide +kernel, rfl, by decide +kernel, by decide +kernel⟩
abbrev v_craft_of (contents : Conts) (name : Str) : Craft := craftOf contents name
def p_craft_of (contents : Conts) (name : Str) : Prop := (findC contents.crafts.l name).isSome = true
theorem ok_craft_of {P : Program} {w : World} {K : Fg} {mg : Str → Option Value} {base : Heap} (T : Tx w K mg) : Fok P w K mg base 2 "craft_of" ["contents", "name"] (spF (fun a : Conts × Str => p_craft_of a.1 a.2) (fun a : Conts × Str => [is K a.1, is K a.2]) fun a => is K (v_craft_of a.1 a.2)) := by
  refine fokR T.fn_craft_of T.glo_craft_of (fun _ _ _ _ _ _ us hl => match us, hl with | [_, _], _ => rfl) sc_craft_of (fun _ => rfl) fun cdv A outer s H E hr a hp => ?_
  obtain ⟨contents, name⟩ := a
  have nd := sc_craft_of.nd
  have hp : p_craft_of contents name := hp
  show SXs _ _ (as (G0 [is K contents, is K name] _) none) _ _ _ (retV (is K (v_craft_of contents name)))
  have hp : (findC contents.crafts.l name).isSome = true := hp
  have ev : v_craft_of contents name = (findC contents.crafts.l name).getD noCraft := rfl
  refine sx_cons (sx_set 2 nd (c_find_named T (hr.mono (by decide)) (xs_cons (f_Contents_crafts T (x_var 0 rfl)) (xs_cons (x_var 1 rfl) xs_nil)))) ?_
  unfold v_find_named
  cases e : findC contents.crafts.l name with
  | none => rw [e] at hp; cases hp
  | some c =>
    rw [e] at ev
    refine sx_ifx (d := false) (t_isNo (x := (some c : Option Craft)) (x_var 2 rfl)) (fun h => nomatch h) (fun _ => ?_)
    exact sx_last (sx_retD (x_some (x_var 2 rfl)) ev.symm)
theorem c_craft_of {X : Cx} {Γ : Gm} {o : Option Own} {e1 e2 : Expr} {p pos : Pos} {contents : Conts} {name : Str} (T : Tx X.w X.K X.mg) (hr : Room 2 X.A) (h : PAX X [e1, e2] Γ o [is X.K contents, is X.K name]) (hp : p_craft_of contents name) (hg : Gl X "craft_of" := by rfl) (he : starEach [e1, e2] X.env = (false, eval e1 X.env) :: starEach [e2] X.env := by rfl) (hpl : (backTo pos (starEach [e2] X.env)).any (·.1) = false := by rfl) : PX X (.Call (.Name "craft_of" p) [e1, e2] [] pos) Γ o (is X.K (v_craft_of contents name)) := x_callF (ok_craft_of T) hr (contents, name) hp h rfl hg (by decide) he hpl
theorem sc_with_crafts : FnScope ["contents", "crafts"] ["contents", "crafts"] (defScope st_with_crafts) := ⟨rfl, rfl, rfl, by decide +kernel, rfl, by decide +kernel, by decide +kernel⟩
abbrev v_with_crafts (contents : Conts) (crafts : Tup (Craft)) : Conts := withCrafts contents crafts
def p_with_crafts (contents : Conts) (crafts : Tup (Craft)) : Prop := KV contents
theorem ok_with_crafts {P : Program} {w : World} {K : Fg} {mg : Str → Option Value} {base : Heap} (T : Tx w K mg) : Fok P w K mg base 5 "with_crafts" ["contents", "crafts"] (spF (fun a : Conts × Tup (Craft) => p_with_crafts a.1 a.2) (fun a : Conts × Tup (Craft) => [is K a.1, is K a.2]) fun a => is K (v_with_crafts a.1 a.2)) := by
  refine fokR T.fn_with_crafts T.glo_with_crafts (fun _ _ _ _ _ _ us hl => match us, hl with | [_, _], _ => rfl) sc_with_crafts (fun _ => rfl) fun cdv A outer s H E hr a hp => ?_
  obtain ⟨contents, crafts⟩ := a
  have nd := sc_with_crafts.nd
  have hp : p_with_crafts contents crafts := hp
  show SXs _ _ (as (G0 [is K contents, is K crafts] _) none) _ _ _ (retV (is K (v_with_crafts contents crafts)))
  have hp : KV contents := hp
  have h1 := hp.st0
  have h2 := hp.st1
  have h3 := hp.f0
  have h4 := hp.f1
  exact sx_last (sx_retD (x := withCrafts contents crafts) (PX.eq (c_Contents (crafts := .tp crafts.l) (sites := .tp contents.sites.l) T (hr.mono (by decide)) (xs_cons (f_Contents_body T (x_var 0 rfl)) (xs_cons (f_Contents_stride T (x_var 0 rfl)) (xs_cons (f_Contents_fineness T (x_var 0 rfl)) (xs_cons (x_var 1 rfl) (xs_cons (f_Contents_sites T (x_var 0 rfl)) xs_nil))))) ⟨⟨h1, by omega⟩, ⟨h3, by omega⟩⟩) rfl) rfl)
theorem c_with_crafts {X : Cx} {Γ : Gm} {o : Option Own} {e1 e2 : Expr} {p pos : Pos} {contents : Conts} {crafts : Tup (Craft)} (T : Tx X.w X.K X.mg) (hr : Room 5 X.A) (h : PAX X [e1, e2] Γ o [is X.K contents, is X.K crafts]) (hp : p_with_crafts contents crafts) (hg : Gl X "with_crafts" := by rfl) (he : starEach [e1, e2] X.env = (false, eval e1 X.env) :: starEach [e2] X.env := by rfl) (hpl : (backTo pos (starEach [e2] X.env)).any (·.1) = false := by rfl) : PX X (.Call (.Name "with_crafts" p) [e1, e2] [] pos) Γ o (is X.K (v_with_crafts contents crafts)) := x_callF (ok_with_crafts T) hr (contents, crafts) hp h rfl hg (by decide) he hpl
theorem sc_changed_craft : FnScope ["contents", "craft", "drift", "burns", "sightings", "new"] ["contents", "craft", "drift", "burns", "sightings"] (defScope st_changed_craft) := ⟨rfl, rfl, rfl, by decide +kernel, rfl, by decide +kernel, by decide +kernel⟩
abbrev v_changed_craft (contents : Conts) (craft : Craft) (drift : Int) (burns : Sq (Burn)) (sightings : Sq (Sight)) : Conts := changed contents craft drift burns sightings
def p_changed_craft (contents : Conts) (craft : Craft) (drift : Int) (burns : Sq (Burn)) (sightings : Sq (Sight)) : Prop := KV contents ∧ CV craft ∧ (0 ≤ drift ∧ drift ≤ MOSTD)
theorem ok_changed_craft {P : Program} {w : World} {K : Fg} {mg : Str → Option Value} {base : Heap} (T : Tx w K mg) : Fok P w K mg base 6 "changed_craft" ["contents", "craft", "drift", "burns", "sightings"] (spF (fun a : Conts × Craft × Int × Sq (Burn) × Sq (Sight) => p_changed_craft a.1 a.2.1 a.2.2.1 a.2.2.2.1 a.2.2.2.2) (fun a : Conts × Craft × Int × Sq (Burn) × Sq (Sight) => [is K a.1, is K a.2.1, is K a.2.2.1, is K a.2.2.2.1, is K a.2.2.2.2]) fun a => is K (v_changed_craft a.1 a.2.1 a.2.2.1 a.2.2.2.1 a.2.2.2.2)) := by
  refine fokR T.fn_changed_craft T.glo_changed_craft (fun _ _ _ _ _ _ us hl => match us, hl with | [_, _, _, _, _], _ => rfl) sc_changed_craft (fun _ => rfl) fun cdv A outer s H E hr a hp => ?_
  obtain ⟨contents, craft, drift, burns, sightings⟩ := a
  have nd := sc_changed_craft.nd
  have hp : p_changed_craft contents craft drift burns sightings := hp
  show SXs _ _ (as (G0 [is K contents, is K craft, is K drift, is K burns, is K sightings] _) none) _ _ _ (retV (is K (v_changed_craft contents craft drift burns sightings)))
  obtain ⟨hk, hc, hd⟩ := hp
  refine sx_cons (sx_set 5 nd (c_Craft T (hr.mono (by decide)) (xs_cons (f_Craft_name T (x_var 1 rfl)) (xs_cons (f_Craft_start T (x_var 1 rfl)) (xs_cons (f_Craft_place T (x_var 1 rfl)) (xs_cons (f_Craft_speed T (x_var 1 rfl)) (xs_cons (x_var 2 rfl) (xs_cons (x_var 3 rfl) (xs_cons (x_var 4 rfl) xs_nil))))))) ⟨hc.nm, ⟨hc.s0, hc.s1⟩, hc.pl, hc.sp, hd⟩)) ?_
  exact sx_last (sx_retD (c_with_crafts T (hr.mono (by decide)) (xs_cons (x_var 0 rfl) (xs_cons (c_put_named T (hr.mono (by decide)) (xs_cons (f_Contents_crafts T (x_var 0 rfl)) (xs_cons (x_var 5 rfl) xs_nil)) (show contents.crafts.l.length ≤ 300 from Nat.le_trans hk.cl (by decide))) xs_nil)) hk) rfl)
theorem c_changed_craft {X : Cx} {Γ : Gm} {o : Option Own} {e1 e2 e3 e4 e5 : Expr} {p pos : Pos} {contents : Conts} {craft : Craft} {drift : Int} {burns : Sq (Burn)} {sightings : Sq (Sight)} (T : Tx X.w X.K X.mg) (hr : Room 6 X.A) (h : PAX X [e1, e2, e3, e4, e5] Γ o [is X.K contents, is X.K craft, is X.K drift, is X.K burns, is X.K sightings]) (hp : p_changed_craft contents craft drift burns sightings) (hg : Gl X "changed_craft" := by rfl) (he : starEach [e1, e2, e3, e4, e5] X.env = (false, eval e1 X.env) :: starEach [e2, e3, e4, e5] X.env := by rfl) (hpl : (backTo pos (starEach [e2, e3, e4, e5] X.env)).any (·.1) = false := by rfl) : PX X (.Call (.Name "changed_craft" p) [e1, e2, e3, e4, e5] [] pos) Γ o (is X.K (v_changed_craft contents craft drift burns sightings)) := x_callF (ok_changed_craft T) hr (contents, craft, drift, burns, sightings) hp h rfl hg (by decide) he hpl
theorem sc_add_craft : FnScope ["contents", "craft", "new"] ["contents", "craft"] (defScope st_add_craft) := ⟨rfl, rfl, rfl, by decide +kernel, rfl, by decide +kernel, by decide +kernel⟩
abbrev v_add_craft (contents : Conts) (craft : Craft) : Conts := addCraft contents craft
def p_add_craft (contents : Conts) (craft : Craft) : Prop := KV contents ∧ contents.crafts.l.length < 20 ∧ CV craft
theorem ok_add_craft {P : Program} {w : World} {K : Fg} {mg : Str → Option Value} {base : Heap} (T : Tx w K mg) : Fok P w K mg base 6 "add_craft" ["contents", "craft"] (spF (fun a : Conts × Craft => p_add_craft a.1 a.2) (fun a : Conts × Craft => [is K a.1, is K a.2]) fun a => is K (v_add_craft a.1 a.2)) := by
  refine fokR T.fn_add_craft T.glo_add_craft (fun _ _ _ _ _ _ us hl => match us, hl with | [_, _], _ => rfl) sc_add_craft (fun _ => rfl) fun cdv A outer s H E hr a hp => ?_
  obtain ⟨contents, craft⟩ := a
  have nd := sc_add_craft.nd
  have hp : p_add_craft contents craft := hp
  show SXs _ _ (as (G0 [is K contents, is K craft] _) none) _ _ _ (retV (is K (v_add_craft contents craft)))
  obtain ⟨hk, hl, hc⟩ := hp
  refine sx_ifx (d := false) (PTX.eq (t_w (w_and (t_isNo (c_find_named T (hr.mono (by decide)) (xs_cons (f_Contents_crafts T (x_var 0 rfl)) (xs_cons (f_Craft_name T (x_var 1 rfl)) xs_nil)))) fun _ => w_and1 (t_ge (x_lenT T.free_len (xs_cons (f_Contents_crafts T (x_var 0 rfl)) xs_nil)) (x_globI T.int_MOST_CRAFT)))) ?_) (fun h => nomatch h) (fun _ => ?_)
  · rw [Bool.and_eq_false_iff]
    exact .inr (decide_eq_false (by omega))
  · refine sx_cons (sx_set 2 nd (c_Craft0 T (hr.mono (by decide)) (xs_cons (f_Craft_name T (x_var 1 rfl)) (xs_cons (f_Craft_start T (x_var 1 rfl)) (xs_cons (f_Craft_place T (x_var 1 rfl)) (xs_cons (f_Craft_speed T (x_var 1 rfl)) (xs_cons (f_Craft_drift T (x_var 1 rfl)) xs_nil))))) ⟨hc.nm, ⟨hc.s0, hc.s1⟩, hc.pl, hc.sp, ⟨hc.d0, hc.d1⟩⟩)) ?_
    exact sx_last (sx_retD (c_with_crafts T (hr.mono (by decide)) (xs_cons (x_var 0 rfl) (xs_cons (c_put_named T (hr.mono (by decide)) (xs_cons (f_Contents_crafts T (x_var 0 rfl)) (xs_cons (x_var 2 rfl) xs_nil)) (show contents.crafts.l.length ≤ 300 by omega)) xs_nil)) hk) rfl)
theorem c_add_craft {X : Cx} {Γ : Gm} {o : Option Own} {e1 e2 : Expr} {p pos : Pos} {contents : Conts} {craft : Craft} (T : Tx X.w X.K X.mg) (hr : Room 6 X.A) (h : PAX X [e1, e2] Γ o [is X.K contents, is X.K craft]) (hp : p_add_craft contents craft) (hg : Gl X "add_craft" := by rfl) (he : starEach [e1, e2] X.env = (false, eval e1 X.env) :: starEach [e2] X.env := by rfl) (hpl : (backTo pos (starEach [e2] X.env)).any (·.1) = false := by rfl) : PX X (.Call (.Name "add_craft" p) [e1, e2] [] pos) Γ o (is X.K (v_add_craft contents craft)) := x_callF (ok_add_craft T) hr (contents, craft) hp h rfl hg (by decide) he hpl
theorem sc_drop_craft : FnScope ["contents", "name"] ["contents", "name"] (defScope st_drop_craft) := ⟨rfl, rfl, rfl, by decide +kernel, rfl, by decide +kernel, by decide +kernel⟩
abbrev v_drop_craft (contents : Conts) (name : Str) : Conts := dropCraft contents name
def p_drop_craft (contents : Conts) (name : Str) : Prop := KV contents ∧ (findC contents.crafts.l name).isSome = true
theorem ok_drop_craft {P : Program} {w : World} {K : Fg} {mg : Str → Option Value} {base : Heap} (T : Tx w K mg) : Fok P w K mg base 6 "drop_craft" ["contents", "name"] (spF (fun a : Conts × Str => p_drop_craft a.1 a.2) (fun a : Conts × Str => [is K a.1, is K a.2]) fun a => is K (v_drop_craft a.1 a.2)) := by
  refine fokR T.fn_drop_craft T.glo_drop_craft (fun _ _ _ _ _ _ us hl => match us, hl with | [_, _], _ => rfl) sc_drop_craft (fun _ => rfl) fun cdv A outer s H E hr a hp => ?_
  obtain ⟨contents, name⟩ := a
  have nd := sc_drop_craft.nd
  have hp : p_drop_craft contents name := hp
  show SXs _ _ (as (G0 [is K contents, is K name] _) none) _ _ _ (retV (is K (v_drop_craft contents name)))
  obtain ⟨hk, hf⟩ := hp
  refine sx_cons (sx_expr (c_craft_of T (hr.mono (by decide)) (xs_cons (x_var 0 rfl) (xs_cons (x_var 1 rfl) xs_nil)) hf)) ?_
  exact sx_last (sx_retD (c_with_crafts T (hr.mono (by decide)) (xs_cons (x_var 0 rfl) (xs_cons (c_drop_named T (hr.mono (by decide)) (xs_cons (f_Contents_crafts T (x_var 0 rfl)) (xs_cons (x_var 1 rfl) xs_nil)) (show contents.crafts.l.length ≤ 300 from Nat.le_trans hk.cl (by decide))) xs_nil)) hk) rfl)
theorem c_drop_craft {X : Cx} {Γ : Gm} {o : Option Own} {e1 e2 : Expr} {p pos : Pos} {contents : Conts} {name : Str} (T : Tx X.w X.K X.mg) (hr : Room 6 X.A) (h : PAX X [e1, e2] Γ o [is X.K contents, is X.K name]) (hp : p_drop_craft contents name) (hg : Gl X "drop_craft" := by rfl) (he : starEach [e1, e2] X.env = (false, eval e1 X.env) :: starEach [e2] X.env := by rfl) (hpl : (backTo pos (starEach [e2] X.env)).any (·.1) = false := by rfl) : PX X (.Call (.Name "drop_craft" p) [e1, e2] [] pos) Γ o (is X.K (v_drop_craft contents name)) := x_callF (ok_drop_craft T) hr (contents, name) hp h rfl hg (by decide) he hpl
theorem sc_set_drift : FnScope ["contents", "name", "drift", "craft"] ["contents", "name", "drift"] (defScope st_set_drift) := ⟨rfl, rfl, rfl, by decide +kernel, rfl, by decide +kernel, by decide +kernel⟩
abbrev v_set_drift (contents : Conts) (name : Str) (drift : Int) : Conts := setDrift contents name drift
def p_set_drift (contents : Conts) (name : Str) (drift : Int) : Prop := KV contents ∧ (findC contents.crafts.l name).isSome = true ∧ (0 ≤ drift ∧ drift ≤ MOSTD)
theorem ok_set_drift {P : Program} {w : World} {K : Fg} {mg : Str → Option Value} {base : Heap} (T : Tx w K mg) : Fok P w K mg base 7 "set_drift" ["contents", "name", "drift"] (spF (fun a : Conts × Str × Int => p_set_drift a.1 a.2.1 a.2.2) (fun a : Conts × Str × Int => [is K a.1, is K a.2.1, is K a.2.2]) fun a => is K (v_set_drift a.1 a.2.1 a.2.2)) := by
  refine fokR T.fn_set_drift T.glo_set_drift (fun _ _ _ _ _ _ us hl => match us, hl with | [_, _, _], _ => rfl) sc_set_drift (fun _ => rfl) fun cdv A outer s H E hr a hp => ?_
  obtain ⟨contents, name, drift⟩ := a
  have nd := sc_set_drift.nd
  have hp : p_set_drift contents name drift := hp
  show SXs _ _ (as (G0 [is K contents, is K name, is K drift] _) none) _ _ _ (retV (is K (v_set_drift contents name drift)))
  obtain ⟨hk, hf, hd⟩ := hp
  have hc := (craftOf_ok hk hf).1
  refine sx_cons (sx_set 3 nd (c_craft_of T (hr.mono (by decide)) (xs_cons (x_var 0 rfl) (xs_cons (x_var 1 rfl) xs_nil)) hf)) ?_
  exact sx_last (sx_retD (c_changed_craft (burns := .tp (craftOf contents name).burns.l) (sightings := .tp (craftOf contents name).sights.l) T (hr.mono (by decide)) (xs_cons (x_var 0 rfl) (xs_cons (x_var 3 rfl) (xs_cons (x_var 2 rfl) (xs_cons (f_Craft_burns T (x_var 3 rfl)) (xs_cons (f_Craft_sightings T (x_var 3 rfl)) xs_nil))))) ⟨hk, hc, hd⟩) rfl)
theorem c_set_drift {X : Cx} {Γ : Gm} {o : Option Own} {e1 e2 e3 : Expr} {p pos : Pos} {contents : Conts} {name : Str} {drift : Int} (T : Tx X.w X.K X.mg) (hr : Room 7 X.A) (h : PAX X [e1, e2, e3] Γ o [is X.K contents, is X.K name, is X.K drift]) (hp : p_set_drift contents name drift) (hg : Gl X "set_drift" := by rfl) (he : starEach [e1, e2, e3] X.env = (false, eval e1 X.env) :: starEach [e2, e3] X.env := by rfl) (hpl : (backTo pos (starEach [e2, e3] X.env)).any (·.1) = false := by rfl) : PX X (.Call (.Name "set_drift" p) [e1, e2, e3] [] pos) Γ o (is X.K (v_set_drift contents name drift)) := x_callF (ok_set_drift T) hr (contents, name, drift) hp h rfl hg (by decide) he hpl
theorem sc_add_burn : FnScope ["contents", "name", "burn", "craft", "others", "other", "before", "after"] ["contents", "name", "burn"] (defScope st_add_burn) := ⟨rfl, rfl, rfl, by decide +kernel, rfl, by decide +kernel, by decide +kernel⟩
abbrev v_add_burn (contents : Conts) (name : Str) (burn : Burn) : Conts := addBurn contents name burn
def p_add_burn (contents : Conts) (name : Str) (burn : Burn) : Prop := KV contents ∧ (findC contents.crafts.l name).isSome = true ∧ (craftOf contents name).start ≤ burn.b ∧ (otherB (craftOf contents name) burn).length < 20 ∧ ∀ o ∈ otherB (craftOf contents name) burn, ¬ (o.b < burn.e ∧ burn.b < o.e)
theorem ok_add_burn {P : Program} {w : World} {K : Fg} {mg : Str → Option Value} {base : Heap} (T : Tx w K mg) : Fok P w K mg base 7 "add_burn" ["contents", "name", "burn"] (spF (fun a : Conts × Str × Burn => p_add_burn a.1 a.2.1 a.2.2) (fun a : Conts × Str × Burn => [is K a.1, is K a.2.1, is K a.2.2]) fun a => is K (v_add_burn a.1 a.2.1 a.2.2)) := by
  refine fokR T.fn_add_burn T.glo_add_burn (fun _ _ _ _ _ _ us hl => match us, hl with | [_, _, _], _ => rfl) sc_add_burn (fun _ => rfl) fun cdv A outer s H E hr a hp => ?_
  obtain ⟨contents, name, burn⟩ := a
  have nd := sc_add_burn.nd
  have hp : p_add_burn contents name burn := hp
  show SXs _ _ (as (G0 [is K contents, is K name, is K burn] _) none) _ _ _ (retV (is K (v_add_burn contents name burn)))
  obtain ⟨hk, hf, hs, hl, hn⟩ := hp
  have hc := (craftOf_ok hk hf).1
  have ev : v_add_burn contents name burn = changed contents (craftOf contents name) (craftOf contents name).drift (.ls (putB (craftOf contents name) burn)) (.tp (craftOf contents name).sights.l) := rfl
  refine sx_cons (sx_set 3 nd (c_craft_of T (hr.mono (by decide)) (xs_cons (x_var 0 rfl) (xs_cons (x_var 1 rfl) xs_nil)) hf)) ?_
  unfold v_craft_of
  generalize craftOf contents name = craft at hc hs hl hn ev ⊢
  refine sx_ifx (t_lt (f_Burn_begin T (x_var 2 rfl)) (f_Craft_start T (x_var 3 rfl))) (fun h => absurd (of_decide_eq_true h) (by omega)) (fun _ => ?_)
  have hbl := hc.bl
  refine sx_cons (sx_lc 4 [("other", 5)] (fun r : Burn => !decide (r.b = burn.b)) (fun r : Burn => r) nd (i_T (f_Craft_burns T (x_var 3 rfl))) (show craft.burns.l.length ≤ 1000 by omega) no_own (blkOk_by (own := [("other", 5)]) (N := ["contents", "name", "burn", "craft", "others", "other", "before", "after"]) (sc := defScope st_add_burn) (by decide +kernel)) (fun a ha => ⟨_, [5], by decide, fun s H C cl fp => ⟨g_name 5 nd, ts_one (t_ne (f_Burn_begin T (x_var 5 rfl)) (f_Burn_begin T (x_var 2 rfl))), fun _ => x_var 5 rfl⟩⟩) (by rfl)) ?_
  rw [filt_id]
  show SXs _ _ (as (List.set _ 4 (some (is K (otherB craft burn)))) none) _ _ _ _
  have eo : putB craft burn = (otherB craft burn).filter (fun o => decide (o.b < burn.b)) ++ [burn] ++ (otherB craft burn).filter fun o => decide (o.b > burn.b) := rfl
  generalize otherB craft burn = others at hl hn eo ⊢
  refine sx_forU (ι := Unit) others (fun _ _ => []) (fun _ _ => none) (fun _ _ => True) () (i_L (x_var 4 rfl)) trivial (by walk_at "gle") rfl (fun k _ a ha _ => ?_) (fun _ _ => ?_)
  · refine ⟨_, [5], g_name 5 nd, no_own, ?_⟩
    have h1 := hn a (List.mem_of_getElem? ha)
    refine sx_ifx (d := false) (PTX.eq (t_w (w_and (t_lt (f_Burn_begin T (x_var 5 rfl)) (f_Burn_end T (x_var 2 rfl))) fun _ => w_and1 (t_lt (f_Burn_begin T (x_var 2 rfl)) (f_Burn_end T (x_var 5 rfl))))) ?_) (fun h => nomatch h) (fun _ => sx_endU () trivial (by walk_at "gle") rfl)
    cases e : (decide (a.b < burn.e) && decide (burn.b < a.e)) with
    | false => rfl
    | true =>
      obtain ⟨e1, e2⟩ := Bool.and_eq_true_iff.mp e
      exact absurd ⟨of_decide_eq_true e1, of_decide_eq_true e2⟩ h1
  · refine sx_ifx (t_ge (x_lenL T.free_len (xs_cons (x_var 4 rfl) xs_nil)) (x_globI T.int_MOST_OF_CRAFT)) (fun h => absurd (of_decide_eq_true h) (by omega)) (fun _ => ?_)
    refine sx_cons (sx_lc 6 [("other", 5)] (fun r : Burn => decide (r.b < burn.b)) (fun r : Burn => r) nd (i_L (x_var 4 rfl)) (show others.length ≤ 1000 by omega) no_own (blkOk_by (own := [("other", 5)]) (N := ["contents", "name", "burn", "craft", "others", "other", "before", "after"]) (sc := defScope st_add_burn) (by decide +kernel)) (fun a ha => ⟨_, [5], by decide, fun s H C cl fp => ⟨g_name 5 nd, ts_one (t_lt (f_Burn_begin T (x_var 5 rfl)) (f_Burn_begin T (x_var 2 rfl))), fun _ => x_var 5 rfl⟩⟩) (by rfl)) ?_
    refine sx_cons (sx_lc 7 [("other", 5)] (fun r : Burn => decide (r.b > burn.b)) (fun r : Burn => r) nd (i_L (x_var 4 rfl)) (show others.length ≤ 1000 by omega) no_own (blkOk_by (own := [("other", 5)]) (N := ["contents", "name", "burn", "craft", "others", "other", "before", "after"]) (sc := defScope st_add_burn) (by decide +kernel)) (fun a ha => ⟨_, [5], by decide, fun s H C cl fp => ⟨g_name 5 nd, ts_one (t_gt (f_Burn_begin T (x_var 5 rfl)) (f_Burn_begin T (x_var 2 rfl))), fun _ => x_var 5 rfl⟩⟩) (by rfl)) ?_
    rw [filt_id, filt_id]
    have l1 := filt_len (xs := others) (p := fun r => decide (r.b < burn.b))
    have l2 := filt_len (xs := others) (p := fun r => decide (r.b > burn.b))
    refine sx_last (sx_retD (c_changed_craft (burns := .ls (putB craft burn)) (sightings := .tp craft.sights.l) T (hr.mono (by decide)) (xs_cons (x_var 0 rfl) (xs_cons (x_var 3 rfl) (xs_cons (f_Craft_drift T (x_var 3 rfl)) (xs_cons (PX.eq (x_cat (x_cat (x_var 6 rfl) (x_lst (xs_cons (x_var 2 rfl) xs_nil)) ?_) (x_var 7 rfl) ?_) ?_) (xs_cons (f_Craft_sightings T (x_var 3 rfl)) xs_nil))))) ⟨hk, hc, hc.d0, hc.d1⟩) ev.symm)
    · rw [List.length_map, List.length_singleton]
      omega
    · rw [List.length_append, List.length_map, List.length_map, List.length_singleton]
      omega
    · show _ = lstOf ((putB craft burn).map (is K))
      rw [eo, List.map_append, List.map_append]
      rfl
theorem c_add_burn {X : Cx} {Γ : Gm} {o : Option Own} {e1 e2 e3 : Expr} {p pos : Pos} {contents : Conts} {name : Str} {burn : Burn} (T : Tx X.w X.K X.mg) (hr : Room 7 X.A) (h : PAX X [e1, e2, e3] Γ o [is X.K contents, is X.K name, is X.K burn]) (hp : p_add_burn contents name burn) (hg : Gl X "add_burn" := by rfl) (he : starEach [e1, e2, e3] X.env = (false, eval e1 X.env) :: starEach [e2, e3] X.env := by rfl) (hpl : (backTo pos (starEach [e2, e3] X.env)).any (·.1) = false := by rfl) : PX X (.Call (.Name "add_burn" p) [e1, e2, e3] [] pos) Γ o (is X.K (v_add_burn contents name burn)) := x_callF (ok_add_burn T) hr (contents, name, burn) hp h rfl hg (by decide) he hpl
theorem sc_add_sighting : FnScope ["contents", "name", "sighting", "craft", "others", "before", "after", "other"] ["contents", "name", "sighting"] (defScope st_add_sighting) := ⟨rfl, rfl, rfl, by decide +kernel, rfl, by decide +kernel, by decide +kernel⟩
abbrev v_add_sighting (contents : Conts) (name : Str) (sighting : Sight) : Conts := addSight contents name sighting
def p_add_sighting (contents : Conts) (name : Str) (sighting : Sight) : Prop := KV contents ∧ (findC contents.crafts.l name).isSome = true ∧ (craftOf contents name).start ≤ sighting.at_ ∧ (otherS (craftOf contents name) sighting.at_).length < 20
theorem ok_add_sighting {P : Program} {w : World} {K : Fg} {mg : Str → Option Value} {base : Heap} (T : Tx w K mg) : Fok P w K mg base 7 "add_sighting" ["contents", "name", "sighting"] (spF (fun a : Conts × Str × Sight => p_add_sighting a.1 a.2.1 a.2.2) (fun a : Conts × Str × Sight => [is K a.1, is K a.2.1, is K a.2.2]) fun a => is K (v_add_sighting a.1 a.2.1 a.2.2)) := by
  refine fokR T.fn_add_sighting T.glo_add_sighting (fun _ _ _ _ _ _ us hl => match us, hl with | [_, _, _], _ => rfl) sc_add_sighting (fun _ => rfl) fun cdv A outer s H E hr a hp => ?_
  obtain ⟨contents, name, sighting⟩ := a
  have nd := sc_add_sighting.nd
  have hp : p_add_sighting contents name sighting := hp
  show SXs _ _ (as (G0 [is K contents, is K name, is K sighting] _) none) _ _ _ (retV (is K (v_add_sighting contents name sighting)))
  obtain ⟨hk, hf, hs, hl⟩ := hp
  have hc := (craftOf_ok hk hf).1
  have ev : v_add_sighting contents name sighting = changed contents (craftOf contents name) (craftOf contents name).drift (.tp (craftOf contents name).burns.l) (.ls (putS (craftOf contents name) sighting)) := rfl
  refine sx_cons (sx_set 3 nd (c_craft_of T (hr.mono (by decide)) (xs_cons (x_var 0 rfl) (xs_cons (x_var 1 rfl) xs_nil)) hf)) ?_
  unfold v_craft_of
  generalize craftOf contents name = craft at hc hs hl ev ⊢
  refine sx_ifx (t_lt (f_Sighting_at T (x_var 2 rfl)) (f_Craft_start T (x_var 3 rfl))) (fun h => absurd (of_decide_eq_true h) (by omega)) (fun _ => ?_)
  have hbl := hc.sl
  refine sx_cons (sx_lc 4 [("other", 7)] (fun r : Sight => !decide (r.at_ = sighting.at_)) (fun r : Sight => r) nd (i_T (f_Craft_sightings T (x_var 3 rfl))) (show craft.sights.l.length ≤ 1000 by omega) no_own (blkOk_by (own := [("other", 7)]) (N := ["contents", "name", "sighting", "craft", "others", "before", "after", "other"]) (sc := defScope st_add_sighting) (by decide +kernel)) (fun a ha => ⟨_, [7], by decide, fun s H C cl fp => ⟨g_name 7 nd, ts_one (t_ne (f_Sighting_at T (x_var 7 rfl)) (f_Sighting_at T (x_var 2 rfl))), fun _ => x_var 7 rfl⟩⟩) (by rfl)) ?_
  rw [filt_id]
  show SXs _ _ (as (List.set _ 4 (some (is K (otherS craft sighting.at_)))) none) _ _ _ _
  have eo : putS craft sighting = (otherS craft sighting.at_).filter (fun o => decide (o.at_ < sighting.at_)) ++ [sighting] ++ (otherS craft sighting.at_).filter fun o => decide (o.at_ > sighting.at_) := rfl
  generalize otherS craft sighting.at_ = others at hl eo ⊢
  refine sx_ifx (t_ge (x_lenL T.free_len (xs_cons (x_var 4 rfl) xs_nil)) (x_globI T.int_MOST_OF_CRAFT)) (fun h => absurd (of_decide_eq_true h) (by omega)) (fun _ => ?_)
  refine sx_cons (sx_lc 5 [("other", 7)] (fun r : Sight => decide (r.at_ < sighting.at_)) (fun r : Sight => r) nd (i_L (x_var 4 rfl)) (show others.length ≤ 1000 by omega) no_own (blkOk_by (own := [("other", 7)]) (N := ["contents", "name", "sighting", "craft", "others", "before", "after", "other"]) (sc := defScope st_add_sighting) (by decide +kernel)) (fun a ha => ⟨_, [7], by decide, fun s H C cl fp => ⟨g_name 7 nd, ts_one (t_lt (f_Sighting_at T (x_var 7 rfl)) (f_Sighting_at T (x_var 2 rfl))), fun _ => x_var 7 rfl⟩⟩) (by rfl)) ?_
  refine sx_cons (sx_lc 6 [("other", 7)] (fun r : Sight => decide (r.at_ > sighting.at_)) (fun r : Sight => r) nd (i_L (x_var 4 rfl)) (show others.length ≤ 1000 by omega) no_own (blkOk_by (own := [("other", 7)]) (N := ["contents", "name", "sighting", "craft", "others", "before", "after", "other"]) (sc := defScope st_add_sighting) (by decide +kernel)) (fun a ha => ⟨_, [7], by decide, fun s H C cl fp => ⟨g_name 7 nd, ts_one (t_gt (f_Sighting_at T (x_var 7 rfl)) (f_Sighting_at T (x_var 2 rfl))), fun _ => x_var 7 rfl⟩⟩) (by rfl)) ?_
  rw [filt_id, filt_id]
  have l1 := filt_len (xs := others) (p := fun r => decide (r.at_ < sighting.at_))
  have l2 := filt_len (xs := others) (p := fun r => decide (r.at_ > sighting.at_))
  refine sx_last (sx_retD (c_changed_craft (burns := .tp craft.burns.l) (sightings := .ls (putS craft sighting)) T (hr.mono (by decide)) (xs_cons (x_var 0 rfl) (xs_cons (x_var 3 rfl) (xs_cons (f_Craft_drift T (x_var 3 rfl)) (xs_cons (f_Craft_burns T (x_var 3 rfl)) (xs_cons (PX.eq (x_cat (x_cat (x_var 5 rfl) (x_lst (xs_cons (x_var 2 rfl) xs_nil)) ?_) (x_var 6 rfl) ?_) ?_) xs_nil))))) ⟨hk, hc, hc.d0, hc.d1⟩) ev.symm)
  · rw [List.length_map, List.length_singleton]
    omega
  · rw [List.length_append, List.length_map, List.length_map, List.length_singleton]
    omega
  · show _ = lstOf ((putS craft sighting).map (is K))
    rw [eo, List.map_append, List.map_append]
    rfl
theorem c_add_sighting {X : Cx} {Γ : Gm} {o : Option Own} {e1 e2 e3 : Expr} {p pos : Pos} {contents : Conts} {name : Str} {sighting : Sight} (T : Tx X.w X.K X.mg) (hr : Room 7 X.A) (h : PAX X [e1, e2, e3] Γ o [is X.K contents, is X.K name, is X.K sighting]) (hp : p_add_sighting contents name sighting) (hg : Gl X "add_sighting" := by rfl) (he : starEach [e1, e2, e3] X.env = (false, eval e1 X.env) :: starEach [e2, e3] X.env := by rfl) (hpl : (backTo pos (starEach [e2, e3] X.env)).any (·.1) = false := by rfl) : PX X (.Call (.Name "add_sighting" p) [e1, e2, e3] [] pos) Γ o (is X.K (v_add_sighting contents name sighting)) := x_callF (ok_add_sighting T) hr (contents, name, sighting) hp h rfl hg (by decide) he hpl
theorem sc_drop_sighting : FnScope ["contents", "name", "at", "craft", "others", "sighting"] ["contents", "name", "at"] (defScope st_drop_sighting) := ⟨rfl, rfl, rfl, by decide +kernel, rfl, by decide +kernel, by decide +kernel⟩
abbrev v_drop_sighting (contents : Conts) (name : Str) (at_ : Int) : Conts := dropSight contents name at_
def p_drop_sighting (contents : Conts) (name : Str) (at_ : Int) : Prop := KV contents ∧ (findC contents.crafts.l name).isSome = true ∧ (otherS (craftOf contents name) at_).length ≠ (craftOf contents name).sights.l.length
theorem ok_drop_sighting {P : Program} {w : World} {K : Fg} {mg : Str → Option Value} {base : Heap} (T : Tx w K mg) : Fok P w K mg base 7 "drop_sighting" ["contents", "name", "at"] (spF (fun a : Conts × Str × Int => p_drop_sighting a.1 a.2.1 a.2.2) (fun a : Conts × Str × Int => [is K a.1, is K a.2.1, is K a.2.2]) fun a => is K (v_drop_sighting a.1 a.2.1 a.2.2)) := by
  refine fokR T.fn_drop_sighting T.glo_drop_sighting (fun _ _ _ _ _ _ us hl => match us, hl with | [_, _, _], _ => rfl) sc_drop_sighting (fun _ => rfl) fun cdv A outer s H E hr a hp => ?_
  obtain ⟨contents, name, at_⟩ := a
  have nd := sc_drop_sighting.nd
  have hp : p_drop_sighting contents name at_ := hp
  show SXs _ _ (as (G0 [is K contents, is K name, is K at_] _) none) _ _ _ (retV (is K (v_drop_sighting contents name at_)))
  obtain ⟨hk, hf, hl⟩ := hp
  have hc := (craftOf_ok hk hf).1
  have ev : v_drop_sighting contents name at_ = changed contents (craftOf contents name) (craftOf contents name).drift (.tp (craftOf contents name).burns.l) (.ls (otherS (craftOf contents name) at_)) := rfl
  refine sx_cons (sx_set 3 nd (c_craft_of T (hr.mono (by decide)) (xs_cons (x_var 0 rfl) (xs_cons (x_var 1 rfl) xs_nil)) hf)) ?_
  unfold v_craft_of
  generalize craftOf contents name = craft at hc hl ev ⊢
  have hbl := hc.sl
  refine sx_cons (sx_lc 4 [("sighting", 5)] (fun r : Sight => !decide (r.at_ = at_)) (fun r : Sight => r) nd (i_T (f_Craft_sightings T (x_var 3 rfl))) (show craft.sights.l.length ≤ 1000 by omega) no_own (blkOk_by (own := [("sighting", 5)]) (N := ["contents", "name", "at", "craft", "others", "sighting"]) (sc := defScope st_drop_sighting) (by decide +kernel)) (fun a ha => ⟨_, [5], by decide, fun s H C cl fp => ⟨g_name 5 nd, ts_one (t_ne (f_Sighting_at T (x_var 5 rfl)) (x_var 2 rfl)), fun _ => x_var 5 rfl⟩⟩) (by rfl)) ?_
  rw [filt_id]
  show SXs _ _ (as (List.set _ 4 (some (is K (otherS craft at_)))) none) _ _ _ _
  refine sx_ifx (t_eq (x_lenL T.free_len (xs_cons (x_var 4 rfl) xs_nil)) (x_lenT T.free_len (xs_cons (f_Craft_sightings T (x_var 3 rfl)) xs_nil))) (fun h => absurd (Int.ofNat.inj (of_decide_eq_true h)) hl) (fun _ => ?_)
  exact sx_last (sx_retD (c_changed_craft (burns := .tp craft.burns.l) (sightings := .ls (otherS craft at_)) T (hr.mono (by decide)) (xs_cons (x_var 0 rfl) (xs_cons (x_var 3 rfl) (xs_cons (f_Craft_drift T (x_var 3 rfl)) (xs_cons (f_Craft_burns T (x_var 3 rfl)) (xs_cons (x_var 4 rfl) xs_nil))))) ⟨hk, hc, hc.d0, hc.d1⟩) ev.symm)
theorem c_drop_sighting {X : Cx} {Γ : Gm} {o : Option Own} {e1 e2 e3 : Expr} {p pos : Pos} {contents : Conts} {name : Str} {at_ : Int} (T : Tx X.w X.K X.mg) (hr : Room 7 X.A) (h : PAX X [e1, e2, e3] Γ o [is X.K contents, is X.K name, is X.K at_]) (hp : p_drop_sighting contents name at_) (hg : Gl X "drop_sighting" := by rfl) (he : starEach [e1, e2, e3] X.env = (false, eval e1 X.env) :: starEach [e2, e3] X.env := by rfl) (hpl : (backTo pos (starEach [e2, e3] X.env)).any (·.1) = false := by rfl) : PX X (.Call (.Name "drop_sighting" p) [e1, e2, e3] [] pos) Γ o (is X.K (v_drop_sighting contents name at_)) := x_callF (ok_drop_sighting T) hr (contents, name, at_) hp h rfl hg (by decide) he hpl
theorem sc_set_stride : FnScope ["contents", "stride"] ["contents", "stride"] (defScope st_set_stride) := ⟨rfl, rfl, rfl, by decide +kernel, rfl, by decide +kernel, by decide +kernel⟩
abbrev v_set_stride (contents : Conts) (stride : Int) : Conts := setStride contents stride
def p_set_stride (contents : Conts) (stride : Int) : Prop := KV contents ∧ (1 ≤ stride ∧ stride ≤ 1000)
theorem ok_set_stride {P : Program} {w : World} {K : Fg} {mg : Str → Option Value} {base : Heap} (T : Tx w K mg) : Fok P w K mg base 5 "set_stride" ["contents", "stride"] (spF (fun a : Conts × Int => p_set_stride a.1 a.2) (fun a : Conts × Int => [is K a.1, is K a.2]) fun a => is K (v_set_stride a.1 a.2)) := by
  refine fokR T.fn_set_stride T.glo_set_stride (fun _ _ _ _ _ _ us hl => match us, hl with | [_, _], _ => rfl) sc_set_stride (fun _ => rfl) fun cdv A outer s H E hr a hp => ?_
  obtain ⟨contents, stride⟩ := a
  have nd := sc_set_stride.nd
  have hp : p_set_stride contents stride := hp
  show SXs _ _ (as (G0 [is K contents, is K stride] _) none) _ _ _ (retV (is K (v_set_stride contents stride)))
  obtain ⟨hk, hs⟩ := hp
  have h1 := hk.st0
  have h2 := hk.st1
  have h3 := hk.f0
  have h4 := hk.f1
  exact sx_last (sx_retD (x := setStride contents stride) (PX.eq (c_Contents (crafts := .tp contents.crafts.l) (sites := .tp contents.sites.l) T (hr.mono (by decide)) (xs_cons (f_Contents_body T (x_var 0 rfl)) (xs_cons (x_var 1 rfl) (xs_cons (f_Contents_fineness T (x_var 0 rfl)) (xs_cons (f_Contents_crafts T (x_var 0 rfl)) (xs_cons (f_Contents_sites T (x_var 0 rfl)) xs_nil))))) (by constructor <;> constructor <;> omega)) rfl) rfl)
theorem c_set_stride {X : Cx} {Γ : Gm} {o : Option Own} {e1 e2 : Expr} {p pos : Pos} {contents : Conts} {stride : Int} (T : Tx X.w X.K X.mg) (hr : Room 5 X.A) (h : PAX X [e1, e2] Γ o [is X.K contents, is X.K stride]) (hp : p_set_stride contents stride) (hg : Gl X "set_stride" := by rfl) (he : starEach [e1, e2] X.env = (false, eval e1 X.env) :: starEach [e2] X.env := by rfl) (hpl : (backTo pos (starEach [e2] X.env)).any (·.1) = false := by rfl) : PX X (.Call (.Name "set_stride" p) [e1, e2] [] pos) Γ o (is X.K (v_set_stride contents stride)) := x_callF (ok_set_stride T) hr (contents, stride) hp h rfl hg (by decide) he hpl
theorem sc_set_fineness : FnScope ["contents", "fineness"] ["contents", "fineness"] (defScope st_set_fineness) := ⟨rfl, rfl, rfl, by decide +kernel, rfl, by decide +kernel, by decide +kernel⟩
abbrev v_set_fineness (contents : Conts) (fineness : Int) : Conts := setFine contents fineness
def p_set_fineness (contents : Conts) (fineness : Int) : Prop := KV contents ∧ (0 ≤ fineness ∧ fineness ≤ 6)
theorem ok_set_fineness {P : Program} {w : World} {K : Fg} {mg : Str → Option Value} {base : Heap} (T : Tx w K mg) : Fok P w K mg base 5 "set_fineness" ["contents", "fineness"] (spF (fun a : Conts × Int => p_set_fineness a.1 a.2) (fun a : Conts × Int => [is K a.1, is K a.2]) fun a => is K (v_set_fineness a.1 a.2)) := by
  refine fokR T.fn_set_fineness T.glo_set_fineness (fun _ _ _ _ _ _ us hl => match us, hl with | [_, _], _ => rfl) sc_set_fineness (fun _ => rfl) fun cdv A outer s H E hr a hp => ?_
  obtain ⟨contents, fineness⟩ := a
  have nd := sc_set_fineness.nd
  have hp : p_set_fineness contents fineness := hp
  show SXs _ _ (as (G0 [is K contents, is K fineness] _) none) _ _ _ (retV (is K (v_set_fineness contents fineness)))
  obtain ⟨hk, hs⟩ := hp
  have h1 := hk.st0
  have h2 := hk.st1
  have h3 := hk.f0
  have h4 := hk.f1
  exact sx_last (sx_retD (x := setFine contents fineness) (PX.eq (c_Contents (crafts := .tp contents.crafts.l) (sites := .tp contents.sites.l) T (hr.mono (by decide)) (xs_cons (f_Contents_body T (x_var 0 rfl)) (xs_cons (f_Contents_stride T (x_var 0 rfl)) (xs_cons (x_var 1 rfl) (xs_cons (f_Contents_crafts T (x_var 0 rfl)) (xs_cons (f_Contents_sites T (x_var 0 rfl)) xs_nil))))) (by constructor <;> constructor <;> omega)) rfl) rfl)
theorem c_set_fineness {X : Cx} {Γ : Gm} {o : Option Own} {e1 e2 : Expr} {p pos : Pos} {contents : Conts} {fineness : Int} (T : Tx X.w X.K X.mg) (hr : Room 5 X.A) (h : PAX X [e1, e2] Γ o [is X.K contents, is X.K fineness]) (hp : p_set_fineness contents fineness) (hg : Gl X "set_fineness" := by rfl) (he : starEach [e1, e2] X.env = (false, eval e1 X.env) :: starEach [e2] X.env := by rfl) (hpl : (backTo pos (starEach [e2] X.env)).any (·.1) = false := by rfl) : PX X (.Call (.Name "set_fineness" p) [e1, e2] [] pos) Γ o (is X.K (v_set_fineness contents fineness)) := x_callF (ok_set_fineness T) hr (contents, fineness) hp h rfl hg (by decide) he hpl
end Or
set_option maxHeartbeats 400000
namespace Or
open PySem PySem.Spec PyProof.Rows L2 L3
local macro_rules | `(tactic| walk_at "gle") => `(tactic| (repeat (first | exact GLe.nil | refine GLe.keep ?_ | refine GLe.drop ?_)))
abbrev BData := T3 Int Int Box
abbrev SData := T2 Int Box
abbrev CData := T7 Str Int Box Box Int (Tup BData) (Tup SData)
def bData (u : Burn) : BData := ⟨u.b, u.e, u.push⟩
def sData (u : Sight) : SData := ⟨u.at_, u.place⟩
def cData (c : Craft) : CData := ⟨c.name, c.start, c.place, c.speed, c.drift, ⟨c.burns.l.map bData⟩, ⟨c.sights.l.map sData⟩⟩
def bRows (c : Craft) : List (T2 Int BData) := c.burns.l.map fun u => ⟨u.b, bData u⟩
def sRows (c : Craft) : List (T2 Int SData) := c.sights.l.map fun u => ⟨u.at_, sData u⟩
theorem bData_ok (u : Burn) : ToE.ok (bData u) := ⟨trivial, trivial, ⟨trivial, trivial⟩, ⟨trivial, trivial⟩, ⟨trivial, trivial⟩⟩
theorem sData_ok (u : Sight) : ToE.ok (sData u) := ⟨trivial, ⟨trivial, trivial⟩, ⟨trivial, trivial⟩, ⟨trivial, trivial⟩⟩
theorem box_ok (x : Box) : ToE.ok x := ⟨⟨trivial, trivial⟩, ⟨trivial, trivial⟩, ⟨trivial, trivial⟩⟩
theorem cData_ok {c : Craft} (h : nameOk c.name) : ToE.ok (cData c) := ⟨name_e h, trivial, box_ok _, box_ok _, trivial, fun x hx => by
  obtain ⟨u, _, rfl⟩ := List.mem_map.mp hx
  exact bData_ok u, fun x hx => by
  obtain ⟨u, _, rfl⟩ := List.mem_map.mp hx
  exact sData_ok u⟩
section
variable {X : Cx} {Γ : Gm} {o : Option Own} {e : Expr} {pos : Pos} {N Bk Ct : Asn} {P : MP}
theorem sx_retA (he : PX X e Γ o P) : SX X (.Return (some e) pos) (as Γ o) N Bk Ct (retV (is X.K Any.any)) := sx_ret he fun _ _ _ => trivial
end
theorem sc_body_data : FnScope ["body"] ["body"] (defScope st_body_data) := ⟨rfl, rfl, rfl, by decide +kernel, rfl, by decide +kernel, by decide +kernel⟩
abbrev v_body_data (body_ : Body) : T3 (Int) (Int) (Pt) := ⟨body_.mu, body_.obl, body_.turn⟩
theorem ok_body_data {P : Program} {w : World} {K : Fg} {mg : Str → Option Value} {base : Heap} (T : Tx w K mg) : Fok P w K mg base 1 "body_data" ["body"] (spF (fun a : Body => True) (fun a : Body => [is K a]) fun a => is K (v_body_data a)) := by
  refine fokR T.fn_body_data T.glo_body_data (fun _ _ _ _ _ _ us hl => match us, hl with | [_], _ => rfl) sc_body_data (fun _ => rfl) fun cdv A outer s H E hr body_ hp => ?_
  have nd := sc_body_data.nd
  show SXs _ _ (as (G0 [is K body_] _) none) _ _ _ (retV (is K (v_body_data body_)))
  exact sx_last (sx_retD (x_t3 (xs_cons (f_Body_mu T (x_var 0 rfl)) (xs_cons (f_Body_oblateness T (x_var 0 rfl)) (xs_cons (f_Body_turn T (x_var 0 rfl)) xs_nil)))) rfl)
theorem c_body_data {X : Cx} {Γ : Gm} {o : Option Own} {e1 : Expr} {p pos : Pos} {body_ : Body} (T : Tx X.w X.K X.mg) (hr : Room 1 X.A) (h : PAX X [e1] Γ o [is X.K body_]) (hg : Gl X "body_data" := by rfl) (he : starEach [e1] X.env = (false, eval e1 X.env) :: starEach [] X.env := by rfl) (hpl : (backTo pos (starEach [] X.env)).any (·.1) = false := by rfl) : PX X (.Call (.Name "body_data" p) [e1] [] pos) Γ o (is X.K (v_body_data body_)) := x_callF (ok_body_data T) hr (body_) trivial h rfl hg (by decide) he hpl
theorem sc_craft_data : FnScope ["craft", "burns", "sightings", "burn", "sighting"] ["craft"] (defScope st_craft_data) := ⟨rfl, rfl, rfl, by decide +kernel, rfl, by decide +kernel, by decide +kernel⟩
abbrev v_craft_data (craft : Craft) : CData := cData craft
def p_craft_data (craft : Craft) : Prop := CV craft
theorem ok_craft_data {P : Program} {w : World} {K : Fg} {mg : Str → Option Value} {base : Heap} (T : Tx w K mg) : Fok P w K mg base 1 "craft_data" ["craft"] (spF (fun a : Craft => p_craft_data a) (fun a : Craft => [is K a]) fun a => is K (v_craft_data a)) := by
  refine fokR T.fn_craft_data T.glo_craft_data (fun _ _ _ _ _ _ us hl => match us, hl with | [_], _ => rfl) sc_craft_data (fun _ => rfl) fun cdv A outer s H E hr craft hp => ?_
  have nd := sc_craft_data.nd
  have hp : p_craft_data craft := hp
  show SXs _ _ (as (G0 [is K craft] _) none) _ _ _ (retV (is K (v_craft_data craft)))
  have hp : CV craft := hp
  have l1 := hp.bl
  have l2 := hp.sl
  refine sx_cons (sx_set (P := is K (Tup.mk (craft.burns.l.map bData))) 1 nd (PX.eq (x_tupL T.free_tuple (xs_cons (x_lc [("burn", 3)] (fun _ => true) bData nd (i_T (f_Craft_burns T (x_var 0 rfl))) (show craft.burns.l.length ≤ 1000 by omega) no_own (blkOk_by (own := [("burn", 3)]) (N := ["craft", "burns", "sightings", "burn", "sighting"]) (sc := defScope st_craft_data) (by decide +kernel)) (fun a ha => ⟨_, [3], by decide, fun s H C cl fp => ⟨g_name 3 nd, ts_nil, fun _ => x_t3 (xs_cons (f_Burn_begin T (x_var 3 rfl)) (xs_cons (f_Burn_end T (x_var 3 rfl)) (xs_cons (f_Burn_push T (x_var 3 rfl)) xs_nil)))⟩⟩)) xs_nil)) (by rw [filt_true]; rfl))) ?_
  refine sx_cons (sx_set (P := is K (Tup.mk (craft.sights.l.map sData))) 2 nd (PX.eq (x_tupL T.free_tuple (xs_cons (x_lc [("sighting", 4)] (fun _ => true) sData nd (i_T (f_Craft_sightings T (x_var 0 rfl))) (show craft.sights.l.length ≤ 1000 by omega) no_own (blkOk_by (own := [("sighting", 4)]) (N := ["craft", "burns", "sightings", "burn", "sighting"]) (sc := defScope st_craft_data) (by decide +kernel)) (fun a ha => ⟨_, [4], by decide, fun s H C cl fp => ⟨g_name 4 nd, ts_nil, fun _ => x_t2 (xs_cons (f_Sighting_at T (x_var 4 rfl)) (xs_cons (f_Sighting_place T (x_var 4 rfl)) xs_nil))⟩⟩)) xs_nil)) (by rw [filt_true]; rfl))) ?_
  exact sx_last (sx_retD (x_t7 (xs_cons (f_Craft_name T (x_var 0 rfl)) (xs_cons (f_Craft_start T (x_var 0 rfl)) (xs_cons (f_Craft_place T (x_var 0 rfl)) (xs_cons (f_Craft_speed T (x_var 0 rfl)) (xs_cons (f_Craft_drift T (x_var 0 rfl)) (xs_cons (x_var 1 rfl) (xs_cons (x_var 2 rfl) xs_nil)))))))) rfl)
theorem c_craft_data {X : Cx} {Γ : Gm} {o : Option Own} {e1 : Expr} {p pos : Pos} {craft : Craft} (T : Tx X.w X.K X.mg) (hr : Room 1 X.A) (h : PAX X [e1] Γ o [is X.K craft]) (hp : p_craft_data craft) (hg : Gl X "craft_data" := by rfl) (he : starEach [e1] X.env = (false, eval e1 X.env) :: starEach [] X.env := by rfl) (hpl : (backTo pos (starEach [] X.env)).any (·.1) = false := by rfl) : PX X (.Call (.Name "craft_data" p) [e1] [] pos) Γ o (is X.K (v_craft_data craft)) := x_callF (ok_craft_data T) hr (craft) hp h rfl hg (by decide) he hpl
theorem sc_same_craft : FnScope ["first", "second"] ["first", "second"] (defScope st_same_craft) := ⟨rfl, rfl, rfl, by decide +kernel, rfl, by decide +kernel, by decide +kernel⟩
abbrev v_same_craft (first : Craft) (second : Craft) : Bool := eqE (cData first) (cData second)
def p_same_craft (first : Craft) (second : Craft) : Prop := CV first ∧ CV second
theorem ok_same_craft {P : Program} {w : World} {K : Fg} {mg : Str → Option Value} {base : Heap} (T : Tx w K mg) : Fok P w K mg base 2 "same_craft" ["first", "second"] (spF (fun a : Craft × Craft => p_same_craft a.1 a.2) (fun a : Craft × Craft => [is K a.1, is K a.2]) fun a => is K (v_same_craft a.1 a.2)) := by
  refine fokR T.fn_same_craft T.glo_same_craft (fun _ _ _ _ _ _ us hl => match us, hl with | [_, _], _ => rfl) sc_same_craft (fun _ => rfl) fun cdv A outer s H E hr a hp => ?_
  obtain ⟨first, second⟩ := a
  have nd := sc_same_craft.nd
  have hp : p_same_craft first second := hp
  show SXs _ _ (as (G0 [is K first, is K second] _) none) _ _ _ (retV (is K (v_same_craft first second)))
  obtain ⟨h1, h2⟩ := hp
  exact sx_last (sx_retD (x_eqE (hu_of hr) (cData_ok h1.nm) (cData_ok h2.nm) (c_craft_data T (hr.mono (by decide)) (xs_cons (x_var 0 rfl) xs_nil) h1) (c_craft_data T (hr.mono (by decide)) (xs_cons (x_var 1 rfl) xs_nil) h2)) rfl)
theorem c_same_craft {X : Cx} {Γ : Gm} {o : Option Own} {e1 e2 : Expr} {p pos : Pos} {first : Craft} {second : Craft} (T : Tx X.w X.K X.mg) (hr : Room 2 X.A) (h : PAX X [e1, e2] Γ o [is X.K first, is X.K second]) (hp : p_same_craft first second) (hg : Gl X "same_craft" := by rfl) (he : starEach [e1, e2] X.env = (false, eval e1 X.env) :: starEach [e2] X.env := by rfl) (hpl : (backTo pos (starEach [e2] X.env)).any (·.1) = false := by rfl) : PX X (.Call (.Name "same_craft" p) [e1, e2] [] pos) Γ o (is X.K (v_same_craft first second)) := x_callF (ok_same_craft T) hr (first, second) hp h rfl hg (by decide) he hpl
theorem sc_entries : FnScope ["craft", "burns", "sightings", "burn", "sighting"] ["craft"] (defScope st_entries) := ⟨rfl, rfl, rfl, by decide +kernel, rfl, by decide +kernel, by decide +kernel⟩
abbrev v_entries (craft : Craft) : T2 (List (T2 (Int) (BData))) (List (T2 (Int) (SData))) := ⟨bRows craft, sRows craft⟩
def p_entries (craft : Craft) : Prop := CV craft
theorem ok_entries {P : Program} {w : World} {K : Fg} {mg : Str → Option Value} {base : Heap} (T : Tx w K mg) : Fok P w K mg base 1 "entries" ["craft"] (spF (fun a : Craft => p_entries a) (fun a : Craft => [is K a]) fun a => is K (v_entries a)) := by
  refine fokR T.fn_entries T.glo_entries (fun _ _ _ _ _ _ us hl => match us, hl with | [_], _ => rfl) sc_entries (fun _ => rfl) fun cdv A outer s H E hr craft hp => ?_
  have nd := sc_entries.nd
  have hp : p_entries craft := hp
  show SXs _ _ (as (G0 [is K craft] _) none) _ _ _ (retV (is K (v_entries craft)))
  have hp : CV craft := hp
  have l1 := hp.bl
  have l2 := hp.sl
  refine sx_cons (sx_lc 1 [("burn", 3)] (fun _ => true) (fun u : Burn => (T2.mk u.b (bData u))) nd (i_T (f_Craft_burns T (x_var 0 rfl))) (show craft.burns.l.length ≤ 1000 by omega) no_own (blkOk_by (own := [("burn", 3)]) (N := ["craft", "burns", "sightings", "burn", "sighting"]) (sc := defScope st_entries) (by decide +kernel)) (fun a ha => ⟨_, [3], by decide, fun s H C cl fp => ⟨g_name 3 nd, ts_nil, fun _ => x_t2 (xs_cons (f_Burn_begin T (x_var 3 rfl)) (xs_cons (x_t3 (xs_cons (f_Burn_begin T (x_var 3 rfl)) (xs_cons (f_Burn_end T (x_var 3 rfl)) (xs_cons (f_Burn_push T (x_var 3 rfl)) xs_nil)))) xs_nil))⟩⟩) (by rfl)) ?_
  refine sx_cons (sx_lc 2 [("sighting", 4)] (fun _ => true) (fun u : Sight => (T2.mk u.at_ (sData u))) nd (i_T (f_Craft_sightings T (x_var 0 rfl))) (show craft.sights.l.length ≤ 1000 by omega) no_own (blkOk_by (own := [("sighting", 4)]) (N := ["craft", "burns", "sightings", "burn", "sighting"]) (sc := defScope st_entries) (by decide +kernel)) (fun a ha => ⟨_, [4], by decide, fun s H C cl fp => ⟨g_name 4 nd, ts_nil, fun _ => x_t2 (xs_cons (f_Sighting_at T (x_var 4 rfl)) (xs_cons (x_t2 (xs_cons (f_Sighting_at T (x_var 4 rfl)) (xs_cons (f_Sighting_place T (x_var 4 rfl)) xs_nil))) xs_nil))⟩⟩) (by rfl)) ?_
  rw [filt_true, filt_true]
  exact sx_last (sx_retD (x_t2 (xs_cons (x_var 1 rfl) (xs_cons (x_var 2 rfl) xs_nil))) rfl)
theorem c_entries {X : Cx} {Γ : Gm} {o : Option Own} {e1 : Expr} {p pos : Pos} {craft : Craft} (T : Tx X.w X.K X.mg) (hr : Room 1 X.A) (h : PAX X [e1] Γ o [is X.K craft]) (hp : p_entries craft) (hg : Gl X "entries" := by rfl) (he : starEach [e1] X.env = (false, eval e1 X.env) :: starEach [] X.env := by rfl) (hpl : (backTo pos (starEach [] X.env)).any (·.1) = false := by rfl) : PX X (.Call (.Name "entries" p) [e1] [] pos) Γ o (is X.K (v_entries craft)) := x_callF (ok_entries T) hr (craft) hp h rfl hg (by decide) he hpl
def fdAt {α : Type} [Rep α] [ToE α] (rows others : List (T2 Int α)) (k : Nat) : Option Int := match rows[k]?, others[k]? with
  | none, some b => some b.a
  | some a, none => some a.a
  | some a, some b => if eqE a.b b.b = true then none else some (min a.a b.a)
  | none, none => none
def firstDiff {α : Type} [Rep α] [ToE α] (rows others : List (T2 Int α)) : Option Int := (List.range (max rows.length others.length)).findSome? (fdAt rows others)
theorem fs_at {β : Type} {f : Nat → Option β} {n k : Nat} {x : β} (hk : k < n) (h : f k = some x) (hj : ∀ j, j < k → f j = none) : (List.range n).findSome? f = some x := by
  induction n with
  | zero => omega
  | succ n ih =>
    rw [List.range_succ, List.findSome?_append]
    by_cases q : k = n
    · subst q
      have e : (List.range k).findSome? f = none := List.findSome?_eq_none_iff.mpr fun j hj2 => hj j (List.mem_range.mp hj2)
      rw [e]
      simp [h]
    · rw [ih (by omega)]
      rfl
theorem fs_no {β : Type} {f : Nat → Option β} {n : Nat} (hj : ∀ j, j < n → f j = none) : (List.range n).findSome? f = none := List.findSome?_eq_none_iff.mpr fun j hj2 => hj j (List.mem_range.mp hj2)
theorem sc_first_difference : FnScope ["rows", "others", "at"] ["rows", "others"] (defScope st_first_difference) := ⟨rfl, rfl, rfl, by decide +kernel, rfl, by decide +kernel, by decide +kernel⟩
theorem ok_first_difference {α : Type} [Rep α] [ToE α] (hdep : ToE.dep α ≤ 64) {P : Program} {w : World} {K : Fg} {mg : Str → Option Value} {base : Heap} (T : Tx w K mg) : Fok P w K mg base 1 "first_difference" ["rows", "others"] (spF (fun a : List (T2 Int α) × List (T2 Int α) => (a.1.length ≤ 1000 ∧ a.2.length ≤ 1000) ∧ (∀ x ∈ a.1, ToE.ok x.b) ∧ ∀ x ∈ a.2, ToE.ok x.b) (fun a => [is K a.1, is K a.2]) fun a => is K (firstDiff a.1 a.2)) := by
  refine fokR T.fn_first_difference T.glo_first_difference (fun _ _ _ _ _ _ us hl => match us, hl with | [_, _], _ => rfl) sc_first_difference (fun _ => rfl) fun cdv A outer s H E hr a hp => ?_
  obtain ⟨rows, others⟩ := a
  have nd := sc_first_difference.nd
  obtain ⟨⟨l1, l2⟩, o1, o2⟩ := hp
  dsimp only at l1 l2 o1 o2
  show SXs _ _ (as (G0 [is K rows, is K others] _) none) _ _ _ (retV (is K (firstDiff rows others)))
  have en : (max (rows.length : Int) (others.length : Int)).toNat = max rows.length others.length := by omega
  refine sx_forU (ι := Unit) (rngL 0 (max (rows.length : Int) (others.length : Int)).toNat) (fun _ _ => []) (fun _ _ => none) (fun k _ => ∀ j, j < k → fdAt rows others j = none) () (i_rng1 T.free_range (xs_cons (x_max2 T.free_max (xs_cons (x_lenL T.free_len (xs_cons (x_var 0 rfl) xs_nil)) (xs_cons (x_lenL T.free_len (xs_cons (x_var 1 rfl) xs_nil)) xs_nil))) xs_nil) (by omega)) (fun j h => absurd h (Nat.not_lt_zero j)) (by walk_at "gle") rfl (fun k _ a ha hk => ?_) (fun _ hk => ?_)
  · obtain ⟨hkn, rfl⟩ := rngL_get ha
    rw [en] at hkn
    refine ⟨_, [2], g_name 2 nd, no_own, ?_⟩
    have ek : (0 : Int) + (k : Int) = (k : Int) := by omega
    rw [ek]
    have fin : ∀ x, fdAt rows others k = some x → some x = firstDiff rows others := fun x hx => (fs_at hkn hx hk).symm
    refine sx_ifx (t_ge (x_var 2 rfl) (x_lenL T.free_len (xs_cons (x_var 0 rfl) xs_nil))) (fun h => ?_) (fun h => ?_)
    · have h := of_decide_eq_true h
      have e1 : rows[k]? = none := List.getElem?_eq_none (by omega)
      have hlt : k < others.length := by omega
      have e2 := List.getElem?_eq_getElem hlt
      refine sx_last (sx_retS (x2a (xLv (x_var 1 rfl) (x_var 2 rfl) (ixN_nat hlt) e2)) (fin _ ?_))
      unfold fdAt
      rw [e1, e2]
    · have h := of_decide_eq_false h
      have hl1 : k < rows.length := by omega
      have e1 := List.getElem?_eq_getElem hl1
      refine sx_ifx (t_ge (x_var 2 rfl) (x_lenL T.free_len (xs_cons (x_var 1 rfl) xs_nil))) (fun h => ?_) (fun h => ?_)
      · have h := of_decide_eq_true h
        have e2 : others[k]? = none := List.getElem?_eq_none (by omega)
        refine sx_last (sx_retS (x2a (xLv (x_var 0 rfl) (x_var 2 rfl) (ixN_nat hl1) e1)) (fin _ ?_))
        unfold fdAt
        rw [e1, e2]
      · have h := of_decide_eq_false h
        have hl2 : k < others.length := by omega
        have e2 := List.getElem?_eq_getElem hl2
        generalize hA : rows[k] = x at e1
        generalize hB : others[k] = y at e2
        have ex := o1 x (List.mem_of_getElem? e1)
        have ey := o2 y (List.mem_of_getElem? e2)
        refine sx_ifx (t_neE (hu_of hr) ex ey (x2b (xLv (x_var 0 rfl) (x_var 2 rfl) (ixN_nat hl1) e1)) (x2b (xLv (x_var 1 rfl) (x_var 2 rfl) (ixN_nat hl2) e2)) hdep) (fun h => ?_) (fun h => ?_)
        · have h2 : ¬ eqE x.b y.b = true := by simpa using h
          refine sx_last (sx_retS (x_min2 T.free_min (xs_cons (x2a (xLv (x_var 0 rfl) (x_var 2 rfl) (ixN_nat hl1) e1)) (xs_cons (x2a (xLv (x_var 1 rfl) (x_var 2 rfl) (ixN_nat hl2) e2)) xs_nil))) (fin _ ?_))
          unfold fdAt
          rw [e1, e2]
          dsimp only
          rw [if_neg h2]
        · have h2 : eqE x.b y.b = true := by simpa using h
          refine sx_endU () (fun j hj => ?_) (by walk_at "gle") rfl
          rcases Nat.lt_succ_iff_lt_or_eq.mp hj with hj | hj
          · exact hk j hj
          · subst hj
            unfold fdAt
            rw [e1, e2]
            dsimp only
            rw [if_pos h2]
  · rw [rngL_len, en] at hk
    exact sx_last (sx_retNo x_non (fs_no hk).symm)
theorem c_first_difference {α : Type} [Rep α] [ToE α] {X : Cx} {Γ : Gm} {o : Option Own} {e1 e2 : Expr} {p pos : Pos} {rows others : List (T2 Int α)} (T : Tx X.w X.K X.mg) (hr : Room 1 X.A) (h : PAX X [e1, e2] Γ o [is X.K rows, is X.K others]) (hp : (rows.length ≤ 1000 ∧ others.length ≤ 1000) ∧ (∀ x ∈ rows, ToE.ok x.b) ∧ ∀ x ∈ others, ToE.ok x.b) (hdep : ToE.dep α ≤ 64 := by decide) (hg : Gl X "first_difference" := by rfl) (he : starEach [e1, e2] X.env = (false, eval e1 X.env) :: starEach [e2] X.env := by rfl) (hpl : (backTo pos (starEach [e2] X.env)).any (·.1) = false := by rfl) : PX X (.Call (.Name "first_difference" p) [e1, e2] [] pos) Γ o (is X.K (firstDiff rows others)) :=
  x_callF (ok_first_difference hdep T) hr (rows, others) hp h rfl hg (by decide) he hpl
theorem min_of : ∀ {l : List Int}, 0 < l.length → ∃ m ∈ l, ∀ y ∈ l, m ≤ y
  | [a], _ => ⟨a, List.mem_cons_self, fun y hy => by rw [List.mem_singleton.mp hy]; exact Int.le_refl _⟩
  | a :: b :: l, _ => by
    obtain ⟨m, h1, h2⟩ := min_of (l := b :: l) (by simp)
    by_cases q : a ≤ m
    · refine ⟨a, List.mem_cons_self, fun y hy => ?_⟩
      rcases List.mem_cons.mp hy with e | hy
      · rw [e]; exact Int.le_refl _
      · exact Int.le_trans q (h2 y hy)
    · refine ⟨m, List.mem_cons_of_mem _ h1, fun y hy => ?_⟩
      rcases List.mem_cons.mp hy with e | hy
      · rw [e]; omega
      · exact h2 y hy
theorem bRows_pre {c d : Craft} (h : CV c) (g : CV d) : ((bRows c).length ≤ 1000 ∧ (bRows d).length ≤ 1000) ∧ (∀ x ∈ bRows c, ToE.ok x.b) ∧ ∀ x ∈ bRows d, ToE.ok x.b := by
  have l1 := h.bl
  have l2 := g.bl
  refine ⟨⟨?_, ?_⟩, fun x hx => ?_, fun x hx => ?_⟩
  · unfold bRows; rw [List.length_map]; omega
  · unfold bRows; rw [List.length_map]; omega
  · obtain ⟨u, _, rfl⟩ := List.mem_map.mp hx
    exact bData_ok u
  · obtain ⟨u, _, rfl⟩ := List.mem_map.mp hx
    exact bData_ok u
theorem sRows_pre {c d : Craft} (h : CV c) (g : CV d) : ((sRows c).length ≤ 1000 ∧ (sRows d).length ≤ 1000) ∧ (∀ x ∈ sRows c, ToE.ok x.b) ∧ ∀ x ∈ sRows d, ToE.ok x.b := by
  have l1 := h.sl
  have l2 := g.sl
  refine ⟨⟨?_, ?_⟩, fun x hx => ?_, fun x hx => ?_⟩
  · unfold sRows; rw [List.length_map]; omega
  · unfold sRows; rw [List.length_map]; omega
  · obtain ⟨u, _, rfl⟩ := List.mem_map.mp hx
    exact sData_ok u
  · obtain ⟨u, _, rfl⟩ := List.mem_map.mp hx
    exact sData_ok u
theorem addO_len {l : List Int} {z : Option Int} : (l ++ z.toList).length ≤ l.length + 1 := by
  cases z <;> simp
theorem sc_touched_at : FnScope ["before", "after", "ticks", "rows", "others", "tick"] ["before", "after"] (defScope st_touched_at) := ⟨rfl, rfl, rfl, by decide +kernel, rfl, by decide +kernel, by decide +kernel⟩
abbrev v_touched_at (before : Craft) (after : Craft) : Any := Any.any
def p_touched_at (before : Craft) (after : Craft) : Prop := CV before ∧ CV after
theorem ok_touched_at {P : Program} {w : World} {K : Fg} {mg : Str → Option Value} {base : Heap} (T : Tx w K mg) : Fok P w K mg base 2 "touched_at" ["before", "after"] (spF (fun a : Craft × Craft => p_touched_at a.1 a.2) (fun a : Craft × Craft => [is K a.1, is K a.2]) fun a => is K (v_touched_at a.1 a.2)) := by
  refine fokR T.fn_touched_at T.glo_touched_at (fun _ _ _ _ _ _ us hl => match us, hl with | [_, _], _ => rfl) sc_touched_at (fun _ => rfl) fun cdv A outer s H E hr a hp => ?_
  obtain ⟨before, after⟩ := a
  have nd := sc_touched_at.nd
  have hp : p_touched_at before after := hp
  show SXs _ _ (as (G0 [is K before, is K after] _) none) _ _ _ (retV (is K (v_touched_at before after)))
  obtain ⟨h1, h2⟩ := hp
  refine sx_ifx (t_w (w_or (t_ne (f_Craft_start T (x_var 0 rfl)) (f_Craft_start T (x_var 1 rfl))) fun _ => w_or1 (t_neE (hu_of hr) (box_ok _) (box_ok _) (f_Craft_place T (x_var 0 rfl)) (f_Craft_place T (x_var 1 rfl))))) (fun _ => ?_) (fun _ => ?_)
  · exact sx_last (sx_retA (x_min2 T.free_min (xs_cons (f_Craft_start T (x_var 0 rfl)) (xs_cons (f_Craft_start T (x_var 1 rfl)) xs_nil))))
  refine sx_ifx (t_w (w_or (t_neE (hu_of hr) (box_ok _) (box_ok _) (f_Craft_speed T (x_var 0 rfl)) (f_Craft_speed T (x_var 1 rfl))) fun _ => w_or1 (t_ne (f_Craft_drift T (x_var 0 rfl)) (f_Craft_drift T (x_var 1 rfl))))) (fun _ => ?_) (fun _ => ?_)
  · exact sx_last (sx_retA (x_min2 T.free_min (xs_cons (f_Craft_start T (x_var 0 rfl)) (xs_cons (f_Craft_start T (x_var 1 rfl)) xs_nil))))
  refine sx_cons (sx_new (α := Int) 2 nd) ?_
  refine sx_cons (M := exA (fun x : List Int => x.length ≤ 2) fun x => as [some (is K before), some (is K after), none, none, none, none] (some (ownL K 2 x))) (sx_forG (ι := List Int) (fun _ _ => [some (is K before), some (is K after), none, none, none, none]) (fun _ x => some (ownL K 2 x)) (fun k x => x.length ≤ k) [] (i_zipT (Ps := [is K (bRows before), is K (sRows before)]) (Qs := [is K (bRows after), is K (sRows after)]) T.free_zip (xs_cons (c_entries T (hr.mono (by decide)) (xs_cons (x_var 0 rfl) xs_nil) h1) (xs_cons (c_entries T (hr.mono (by decide)) (xs_cons (x_var 1 rfl) xs_nil) h2) xs_nil)) rfl) (Nat.le_refl _) (as_le (by walk_at "gle")) (fun i x P hP hx => ?_) (fun x hx => exA_in x hx (as_le (by walk_at "gle")))) (sx_ex fun x hx => ?_)
  · match i with
    | 0 =>
    · have hP := (Option.some.inj hP).symm
      subst hP
      refine ⟨_, _, g_tup (Ps := [is K (bRows before), is K (bRows after)]) rfl (gs_cons (g_name 3 nd) (gs_cons (g_name 4 nd) gs_nil)) rfl, own_ninL (by decide), ?_⟩
      refine sx_cons (sx_set 5 nd (c_first_difference T (hr.mono (by decide)) (xs_cons (x_var 3 rfl) (xs_cons (x_var 4 rfl) xs_nil)) (bRows_pre h1 h2))) ?_
      generalize firstDiff (bRows before) (bRows after) = z
      cases z with
      | none => exact sx_last (sx_ifF (t_notNo (x := (none : Option Int)) (x_var 5 rfl)) rfl (sx_end (exA_in x (show x.length ≤ 0 + 1 by omega) (as_le (by walk_at "gle")))))
      | some z => exact sx_last (sx_ifT (t_notNo (x := (some z : Option Int)) (x_var 5 rfl)) rfl (sx_cons (sx_append (x_some (x_var 5 rfl)) (show x.length ≤ 1000 by omega)) (sx_end (exA_in (x ++ [z]) (show (x ++ [z]).length ≤ 0 + 1 by rw [List.length_append]; exact Nat.succ_le_succ hx) (as_le (by walk_at "gle"))))))

    | 1 =>
    · have hP := (Option.some.inj hP).symm
      subst hP
      refine ⟨_, _, g_tup (Ps := [is K (sRows before), is K (sRows after)]) rfl (gs_cons (g_name 3 nd) (gs_cons (g_name 4 nd) gs_nil)) rfl, own_ninL (by decide), ?_⟩
      refine sx_cons (sx_set 5 nd (c_first_difference T (hr.mono (by decide)) (xs_cons (x_var 3 rfl) (xs_cons (x_var 4 rfl) xs_nil)) (sRows_pre h1 h2))) ?_
      generalize firstDiff (sRows before) (sRows after) = z
      cases z with
      | none => exact sx_last (sx_ifF (t_notNo (x := (none : Option Int)) (x_var 5 rfl)) rfl (sx_end (exA_in x (show x.length ≤ 1 + 1 by omega) (as_le (by walk_at "gle")))))
      | some z => exact sx_last (sx_ifT (t_notNo (x := (some z : Option Int)) (x_var 5 rfl)) rfl (sx_cons (sx_append (x_some (x_var 5 rfl)) (show x.length ≤ 1000 by omega)) (sx_end (exA_in (x ++ [z]) (show (x ++ [z]).length ≤ 1 + 1 by rw [List.length_append]; exact Nat.succ_le_succ hx) (as_le (by walk_at "gle"))))))

    | i + 2 => exact absurd hP (by simp)
  · refine sx_freeze ?_
    refine sx_ifx (t_listL (Ps := x.map (is K)) (x_var 2 rfl)) (fun h => ?_) (fun _ => ?_)
    · have hpos : 0 < x.length := by
        cases x with
        | nil => cases h
        | cons a x => simp
      obtain ⟨m, m1, m2⟩ := min_of hpos
      exact sx_last (sx_retA (x_minL T.free_min (xs_cons (x_var 2 rfl) xs_nil) m1 m2))
    · exact sx_last (sx_retA x_non)
theorem c_touched_at {X : Cx} {Γ : Gm} {o : Option Own} {e1 e2 : Expr} {p pos : Pos} {before : Craft} {after : Craft} (T : Tx X.w X.K X.mg) (hr : Room 2 X.A) (h : PAX X [e1, e2] Γ o [is X.K before, is X.K after]) (hp : p_touched_at before after) (hg : Gl X "touched_at" := by rfl) (he : starEach [e1, e2] X.env = (false, eval e1 X.env) :: starEach [e2] X.env := by rfl) (hpl : (backTo pos (starEach [e2] X.env)).any (·.1) = false := by rfl) : PX X (.Call (.Name "touched_at" p) [e1, e2] [] pos) Γ o (is X.K (v_touched_at before after)) := x_callF (ok_touched_at T) hr (before, after) hp h rfl hg (by decide) he hpl
end Or
set_option maxHeartbeats 400000
namespace Or
open PySem PySem.Spec PyProof.Rows L2 L3
local macro_rules | `(tactic| walk_at "gle") => `(tactic| (repeat (first | exact GLe.nil | refine GLe.keep ?_ | refine GLe.drop ?_)))
abbrev BodyD := T3 Int Int Pt
theorem bodyD_ok (x : BodyD) : ToE.ok x := ⟨trivial, trivial, trivial, trivial, trivial⟩
theorem pt_ok (x : Pt) : ToE.ok x := ⟨trivial, trivial, trivial⟩
def rulesDiffer (a b : Conts) : Bool := !eqE (⟨a.body.mu, a.body.obl, a.body.turn⟩ : BodyD) ⟨b.body.mu, b.body.obl, b.body.turn⟩ || (!decide (a.stride = b.stride) || !decide (a.fine = b.fine))
theorem sc_rules_differ : FnScope ["before", "after"] ["before", "after"] (defScope st_rules_differ) := ⟨rfl, rfl, rfl, by decide +kernel, rfl, by decide +kernel, by decide +kernel⟩
abbrev v_rules_differ (before : Conts) (after : Conts) : Bool := rulesDiffer before after
theorem ok_rules_differ {P : Program} {w : World} {K : Fg} {mg : Str → Option Value} {base : Heap} (T : Tx w K mg) : Fok P w K mg base 2 "rules_differ" ["before", "after"] (spF (fun a : Conts × Conts => True) (fun a : Conts × Conts => [is K a.1, is K a.2]) fun a => is K (v_rules_differ a.1 a.2)) := by
  refine fokR T.fn_rules_differ T.glo_rules_differ (fun _ _ _ _ _ _ us hl => match us, hl with | [_, _], _ => rfl) sc_rules_differ (fun _ => rfl) fun cdv A outer s H E hr a hp => ?_
  obtain ⟨before, after⟩ := a
  have nd := sc_rules_differ.nd
  show SXs _ _ (as (G0 [is K before, is K after] _) none) _ _ _ (retV (is K (v_rules_differ before after)))
  have ev : v_rules_differ before after = (!eqE (⟨before.body.mu, before.body.obl, before.body.turn⟩ : BodyD) ⟨after.body.mu, after.body.obl, after.body.turn⟩ || (!decide (before.stride = after.stride) || !decide (before.fine = after.fine))) := rfl
  refine sx_ifx (t_neE (hu_of hr) (bodyD_ok _) (bodyD_ok _) (c_body_data T (hr.mono (by decide)) (xs_cons (f_Contents_body T (x_var 0 rfl)) xs_nil)) (c_body_data T (hr.mono (by decide)) (xs_cons (f_Contents_body T (x_var 1 rfl)) xs_nil))) (fun h => ?_) (fun h => ?_)
  · rw [h, Bool.true_or] at ev
    exact sx_last (sx_retD x_bl ev.symm)
  · rw [h, Bool.false_or] at ev
    exact sx_last (sx_retD (x_or (x_ne (f_Contents_stride T (x_var 0 rfl)) (f_Contents_stride T (x_var 1 rfl))) fun _ => x_one (x_ne (f_Contents_fineness T (x_var 0 rfl)) (f_Contents_fineness T (x_var 1 rfl)))) ev.symm)
theorem c_rules_differ {X : Cx} {Γ : Gm} {o : Option Own} {e1 e2 : Expr} {p pos : Pos} {before : Conts} {after : Conts} (T : Tx X.w X.K X.mg) (hr : Room 2 X.A) (h : PAX X [e1, e2] Γ o [is X.K before, is X.K after]) (hg : Gl X "rules_differ" := by rfl) (he : starEach [e1, e2] X.env = (false, eval e1 X.env) :: starEach [e2] X.env := by rfl) (hpl : (backTo pos (starEach [e2] X.env)).any (·.1) = false := by rfl) : PX X (.Call (.Name "rules_differ" p) [e1, e2] [] pos) Γ o (is X.K (v_rules_differ before after)) := x_callF (ok_rules_differ T) hr (before, after) trivial h rfl hg (by decide) he hpl
theorem sc_touched_crafts : FnScope ["before", "after", "result", "all_touched", "craft", "old"] ["before", "after"] (defScope st_touched_crafts) := ⟨rfl, rfl, rfl, by decide +kernel, rfl, by decide +kernel, by decide +kernel⟩
abbrev v_touched_crafts (before : Conts) (after : Conts) : Any := Any.any
def p_touched_crafts (before : Conts) (after : Conts) : Prop := KV before ∧ KV after
theorem ok_touched_crafts {P : Program} {w : World} {K : Fg} {mg : Str → Option Value} {base : Heap} (T : Tx w K mg) : Fok P w K mg base 3 "touched_crafts" ["before", "after"] (spF (fun a : Conts × Conts => p_touched_crafts a.1 a.2) (fun a : Conts × Conts => [is K a.1, is K a.2]) fun a => is K (v_touched_crafts a.1 a.2)) := by
  refine fokR T.fn_touched_crafts T.glo_touched_crafts (fun _ _ _ _ _ _ us hl => match us, hl with | [_, _], _ => rfl) sc_touched_crafts (fun _ => rfl) fun cdv A outer s H E hr a hp => ?_
  obtain ⟨before, after⟩ := a
  have nd := sc_touched_crafts.nd
  have hp : p_touched_crafts before after := hp
  show SXs _ _ (as (G0 [is K before, is K after] _) none) _ _ _ (retV (is K (v_touched_crafts before after)))
  obtain ⟨h1, h2⟩ := hp
  have hl := h2.cl
  refine sx_cons (sx_new (α := Any) 2 nd) ?_
  refine sx_cons (sx_set 3 nd (c_rules_differ T (hr.mono (by decide)) (xs_cons (x_var 0 rfl) (xs_cons (x_var 1 rfl) xs_nil)))) ?_
  unfold v_rules_differ
  generalize rulesDiffer before after = rd
  refine sx_forU (ι := List Any) after.crafts.l (fun _ _ => []) (fun _ x => some (ownL K 2 x)) (fun k x => x.length ≤ k) [] (i_T (f_Contents_crafts T (x_var 1 rfl))) (Nat.le_refl _) (by walk_at "gle") rfl (fun k x a ha hx => ?_) (fun x hx => ?_)
  · have hk := lt_of ha
    have ca := h2.cr a (List.mem_of_getElem? ha)
    refine ⟨_, [4], g_name 4 nd, own_ninL (by decide), ?_⟩
    have hxl : x.length ≤ 1000 := by omega
    refine sx_cons (sx_set 5 nd (c_find_named T (hr.mono (by decide)) (xs_cons (f_Contents_crafts T (x_var 0 rfl)) (xs_cons (f_Craft_name T (x_var 4 rfl)) xs_nil)))) ?_
    have hold : ∀ c, findC before.crafts.l a.name = some c → CV c := fun c e => h1.cr c (List.mem_of_find?_eq_some e)
    unfold v_find_named
    generalize findC before.crafts.l a.name = old at hold
    cases old with
    | none =>
      exact sx_last (sx_ifT (t_isNo (x := (none : Option Craft)) (x_var 5 rfl)) rfl (sx_cons (sx_append (x_any (x_t2 (xs_cons (f_Craft_name T (x_var 4 rfl)) (xs_cons (f_Craft_start T (x_var 4 rfl)) xs_nil)))) hxl) (sx_end (exA_in (x ++ [Any.any]) (show (x ++ [Any.any]).length ≤ k + 1 by rw [List.length_append]; exact Nat.succ_le_succ hx) (as_le (by walk_at "gle"))))))
    | some c =>
      have cc := hold c rfl
      refine sx_last (sx_ifF (t_isNo (x := (some c : Option Craft)) (x_var 5 rfl)) rfl ?_)
      refine sx_last (sx_if (t_val (x_var 3 rfl)) (fun _ => ?_) (fun _ => ?_))
      · exact sx_cons (sx_append (x_any (x_t2 (xs_cons (f_Craft_name T (x_var 4 rfl)) (xs_cons (x_min2 T.free_min (xs_cons (f_Craft_start T (x_some (x_var 5 rfl))) (xs_cons (f_Craft_start T (x_var 4 rfl)) xs_nil))) xs_nil)))) hxl) (sx_end (exA_in (x ++ [Any.any]) (show (x ++ [Any.any]).length ≤ k + 1 by rw [List.length_append]; exact Nat.succ_le_succ hx) (as_le (by walk_at "gle"))))
      · refine sx_last (sx_if (t_not (t_val (c_same_craft T (hr.mono (by decide)) (xs_cons (x_some (x_var 5 rfl)) (xs_cons (x_var 4 rfl) xs_nil)) ⟨cc, ca⟩))) (fun _ => ?_) (fun _ => ?_))
        · exact sx_cons (sx_append (x_any (x_tup (xs_cons (f_Craft_name T (x_var 4 rfl)) (xs_cons (c_touched_at T (hr.mono (by decide)) (xs_cons (x_some (x_var 5 rfl)) (xs_cons (x_var 4 rfl) xs_nil)) ⟨cc, ca⟩) xs_nil)))) hxl) (sx_end (exA_in (x ++ [Any.any]) (show (x ++ [Any.any]).length ≤ k + 1 by rw [List.length_append]; exact Nat.succ_le_succ hx) (as_le (by walk_at "gle"))))
        · exact sx_end (exA_in x (show x.length ≤ k + 1 by omega) (as_le (by walk_at "gle")))
  · refine sx_freeze ?_
    exact sx_last (sx_retA (x_var 2 rfl))
theorem c_touched_crafts {X : Cx} {Γ : Gm} {o : Option Own} {e1 e2 : Expr} {p pos : Pos} {before : Conts} {after : Conts} (T : Tx X.w X.K X.mg) (hr : Room 3 X.A) (h : PAX X [e1, e2] Γ o [is X.K before, is X.K after]) (hp : p_touched_crafts before after) (hg : Gl X "touched_crafts" := by rfl) (he : starEach [e1, e2] X.env = (false, eval e1 X.env) :: starEach [e2] X.env := by rfl) (hpl : (backTo pos (starEach [e2] X.env)).any (·.1) = false := by rfl) : PX X (.Call (.Name "touched_crafts" p) [e1, e2] [] pos) Γ o (is X.K (v_touched_crafts before after)) := x_callF (ok_touched_crafts T) hr (before, after) hp h rfl hg (by decide) he hpl
theorem sc_touched_sites : FnScope ["before", "after", "turned", "result", "site", "old"] ["before", "after"] (defScope st_touched_sites) := ⟨rfl, rfl, rfl, by decide +kernel, rfl, by decide +kernel, by decide +kernel⟩
abbrev v_touched_sites (before : Conts) (after : Conts) : Any := Any.any
def p_touched_sites (before : Conts) (after : Conts) : Prop := after.sites.l = []
theorem ok_touched_sites {P : Program} {w : World} {K : Fg} {mg : Str → Option Value} {base : Heap} (T : Tx w K mg) : Fok P w K mg base 1 "touched_sites" ["before", "after"] (spF (fun a : Conts × Conts => p_touched_sites a.1 a.2) (fun a : Conts × Conts => [is K a.1, is K a.2]) fun a => is K (v_touched_sites a.1 a.2)) := by
  refine fokR T.fn_touched_sites T.glo_touched_sites (fun _ _ _ _ _ _ us hl => match us, hl with | [_, _], _ => rfl) sc_touched_sites (fun _ => rfl) fun cdv A outer s H E hr a hp => ?_
  obtain ⟨before, after⟩ := a
  have nd := sc_touched_sites.nd
  have hp : p_touched_sites before after := hp
  show SXs _ _ (as (G0 [is K before, is K after] _) none) _ _ _ (retV (is K (v_touched_sites before after)))
  have hp : after.sites.l = [] := hp
  refine sx_cons (sx_set 2 nd (x_neE (hu_of hr) (pt_ok _) (pt_ok _) (f_Body_turn T (f_Contents_body T (x_var 0 rfl))) (f_Body_turn T (f_Contents_body T (x_var 1 rfl))))) ?_
  refine sx_cons (sx_new (α := Any) 3 nd) ?_
  refine sx_forU (ι := Unit) ([] : List Craft) (fun _ _ => []) (fun _ _ => some (ownL K 3 ([] : List Any))) (fun _ _ => True) () (by rw [← hp]; exact i_T (f_Contents_sites T (x_var 1 rfl))) trivial (by walk_at "gle") rfl (fun k x a ha hx => absurd ha (by simp)) (fun _ _ => ?_)
  refine sx_freeze ?_
  exact sx_last (sx_retA (x_var 3 rfl))
theorem c_touched_sites {X : Cx} {Γ : Gm} {o : Option Own} {e1 e2 : Expr} {p pos : Pos} {before : Conts} {after : Conts} (T : Tx X.w X.K X.mg) (hr : Room 1 X.A) (h : PAX X [e1, e2] Γ o [is X.K before, is X.K after]) (hp : p_touched_sites before after) (hg : Gl X "touched_sites" := by rfl) (he : starEach [e1, e2] X.env = (false, eval e1 X.env) :: starEach [e2] X.env := by rfl) (hpl : (backTo pos (starEach [e2] X.env)).any (·.1) = false := by rfl) : PX X (.Call (.Name "touched_sites" p) [e1, e2] [] pos) Γ o (is X.K (v_touched_sites before after)) := x_callF (ok_touched_sites T) hr (before, after) hp h rfl hg (by decide) he hpl
theorem sc_gone : FnScope ["rows", "others", "row"] ["rows", "others"] (defScope st_gone) := ⟨rfl, rfl, rfl, by decide +kernel, rfl, by decide +kernel, by decide +kernel⟩
abbrev v_gone (rows : Tup (Craft)) (others : Tup (Craft)) : List (Str) := (rows.l.filter fun r => (findC others.l r.name).isNone).map fun r => r.name
def p_gone (rows : Tup (Craft)) (others : Tup (Craft)) : Prop := rows.l.length ≤ 1000
theorem ok_gone {P : Program} {w : World} {K : Fg} {mg : Str → Option Value} {base : Heap} (T : Tx w K mg) : Fok P w K mg base 2 "gone" ["rows", "others"] (spF (fun a : Tup (Craft) × Tup (Craft) => p_gone a.1 a.2) (fun a : Tup (Craft) × Tup (Craft) => [is K a.1, is K a.2]) fun a => is K (v_gone a.1 a.2)) := by
  refine fokR T.fn_gone T.glo_gone (fun _ _ _ _ _ _ us hl => match us, hl with | [_, _], _ => rfl) sc_gone (fun _ => rfl) fun cdv A outer s H E hr a hp => ?_
  obtain ⟨rows, others⟩ := a
  have nd := sc_gone.nd
  have hp : p_gone rows others := hp
  show SXs _ _ (as (G0 [is K rows, is K others] _) none) _ _ _ (retV (is K (v_gone rows others)))
  have hp : rows.l.length ≤ 1000 := hp
  exact sx_last (sx_retD (x_lc [("row", 2)] (fun r : Craft => (findC others.l r.name).isNone) (fun r : Craft => r.name) nd (i_T (x_var 0 rfl)) hp no_own (blkOk_by (own := [("row", 2)]) (N := ["rows", "others", "row"]) (sc := defScope st_gone) (by decide +kernel)) (fun a ha => ⟨_, [2], by decide, fun s H C cl fp => ⟨g_name 2 nd, ts_one (t_isNo (c_find_named T (hr.mono (by decide)) (xs_cons (x_var 1 rfl) (xs_cons (f_Craft_name T (x_var 2 rfl)) xs_nil)))), fun _ => f_Craft_name T (x_var 2 rfl)⟩⟩)) rfl)
theorem c_gone {X : Cx} {Γ : Gm} {o : Option Own} {e1 e2 : Expr} {p pos : Pos} {rows : Tup (Craft)} {others : Tup (Craft)} (T : Tx X.w X.K X.mg) (hr : Room 2 X.A) (h : PAX X [e1, e2] Γ o [is X.K rows, is X.K others]) (hp : p_gone rows others) (hg : Gl X "gone" := by rfl) (he : starEach [e1, e2] X.env = (false, eval e1 X.env) :: starEach [e2] X.env := by rfl) (hpl : (backTo pos (starEach [e2] X.env)).any (·.1) = false := by rfl) : PX X (.Call (.Name "gone" p) [e1, e2] [] pos) Γ o (is X.K (v_gone rows others)) := x_callF (ok_gone T) hr (rows, others) hp h rfl hg (by decide) he hpl
theorem sc_differences : FnScope ["before", "after", "crafts", "sites"] ["before", "after"] (defScope st_differences) := ⟨rfl, rfl, rfl, by decide +kernel, rfl, by decide +kernel, by decide +kernel⟩
abbrev v_differences (before : Conts) (after : Conts) : Any := Any.any
def p_differences (before : Conts) (after : Conts) : Prop := KV before ∧ KV after
theorem ok_differences {P : Program} {w : World} {K : Fg} {mg : Str → Option Value} {base : Heap} (T : Tx w K mg) : Fok P w K mg base 4 "differences" ["before", "after"] (spF (fun a : Conts × Conts => p_differences a.1 a.2) (fun a : Conts × Conts => [is K a.1, is K a.2]) fun a => is K (v_differences a.1 a.2)) := by
  refine fokR T.fn_differences T.glo_differences (fun _ _ _ _ _ _ us hl => match us, hl with | [_, _], _ => rfl) sc_differences (fun _ => rfl) fun cdv A outer s H E hr a hp => ?_
  obtain ⟨before, after⟩ := a
  have nd := sc_differences.nd
  have hp : p_differences before after := hp
  show SXs _ _ (as (G0 [is K before, is K after] _) none) _ _ _ (retV (is K (v_differences before after)))
  obtain ⟨h1, h2⟩ := hp
  have l1 := h1.cl
  have n1 := h1.no
  refine sx_cons (sx_set 2 nd (c_touched_crafts T (hr.mono (by decide)) (xs_cons (x_var 0 rfl) (xs_cons (x_var 1 rfl) xs_nil)) ⟨h1, h2⟩)) ?_
  refine sx_cons (sx_set 3 nd (c_touched_sites T (hr.mono (by decide)) (xs_cons (x_var 0 rfl) (xs_cons (x_var 1 rfl) xs_nil)) h2.no)) ?_
  exact sx_last (sx_retA (x_t4 (xs_cons (x_var 2 rfl) (xs_cons (c_gone T (hr.mono (by decide)) (xs_cons (f_Contents_crafts T (x_var 0 rfl)) (xs_cons (f_Contents_crafts T (x_var 1 rfl)) xs_nil)) (show before.crafts.l.length ≤ 1000 by omega)) (xs_cons (x_var 3 rfl) (xs_cons (c_gone T (hr.mono (by decide)) (xs_cons (f_Contents_sites T (x_var 0 rfl)) (xs_cons (f_Contents_sites T (x_var 1 rfl)) xs_nil)) (show before.sites.l.length ≤ 1000 by rw [n1]; exact Nat.zero_le _)) xs_nil))))))
theorem c_differences {X : Cx} {Γ : Gm} {o : Option Own} {e1 e2 : Expr} {p pos : Pos} {before : Conts} {after : Conts} (T : Tx X.w X.K X.mg) (hr : Room 4 X.A) (h : PAX X [e1, e2] Γ o [is X.K before, is X.K after]) (hp : p_differences before after) (hg : Gl X "differences" := by rfl) (he : starEach [e1, e2] X.env = (false, eval e1 X.env) :: starEach [e2] X.env := by rfl) (hpl : (backTo pos (starEach [e2] X.env)).any (·.1) = false := by rfl) : PX X (.Call (.Name "differences" p) [e1, e2] [] pos) Γ o (is X.K (v_differences before after)) := x_callF (ok_differences T) hr (before, after) hp h rfl hg (by decide) he hpl
def EOk (k : Conts) : Edit → Prop
  | .addCraft c => p_add_craft k c
  | .dropCraft n => p_drop_craft k n
  | .setStride s => p_set_stride k s
  | .setFine f => p_set_fineness k f
  | .setDrift n d => p_set_drift k n d
  | .addBurn n u => p_add_burn k n u
  | .addSight n u => p_add_sighting k n u
  | .dropSight n t => p_drop_sighting k n t
theorem more_tabs {w : World} {K : Fg} {mg : Str → Option Value} (T : Tx w K mg) : He.valsB K (He.ga K "ONE") (one K) = true ∧ He.valsB K (He.ga K "TWO") (two K) = true ∧ mg "ONE" = some (.ref (He.ga K "ONE")) ∧ mg "TWO" = some (.ref (He.ga K "TWO")) ∧ (∀ x ∈ (["set drift", "add burn", "add sighting", "drop sighting"] : List Str), PySem.W.nsIn K (He.ga K "ONE") x = some none) ∧ lostB K = true := by
  obtain ⟨h, X0, G⟩ := T.ex
  have m := He.ba T.more
  have m := He.ba m.2
  have m := He.ba m.2
  have m := He.ba m.2
  have m := He.ba m.2
  have m := He.ba m.2
  have m := He.ba m.2
  have m := He.ba m.2
  have m := He.ba m.2
  have m := He.ba m.2
  have m1 := He.ba m.2
  have m2 := He.ba m1.2
  have m3 := He.ba m2.2
  have m4 := He.ba m3.2
  have m5 := He.ba m4.2
  have m6 := He.ba m5.2
  have m7 := He.ba m6.2
  exact ⟨m1.1, m2.1, PySem.W.mg_of X0 G (He.eqO_ok m5.1), PySem.W.mg_of X0 G (He.eqO_ok m6.1), fun x hx => He.eqO_ok (List.all_eq_true.mp m7.1 x hx), m7.2⟩
theorem sc_apply_edit : FnScope ["contents", "edit", "word", "one", "two"] ["contents", "edit"] (defScope st_apply_edit) := ⟨rfl, rfl, rfl, by decide +kernel, rfl, by decide +kernel, by decide +kernel⟩
abbrev v_apply_edit (contents : Conts) (edit : Edit) : Conts := applyE contents edit
def p_apply_edit (contents : Conts) (edit : Edit) : Prop := EOk contents edit
theorem ok_apply_edit {P : Program} {w : World} {K : Fg} {mg : Str → Option Value} {base : Heap} (T : Tx w K mg) : Fok P w K mg base 8 "apply_edit" ["contents", "edit"] (spF (fun a : Conts × Edit => p_apply_edit a.1 a.2) (fun a : Conts × Edit => [is K a.1, is K a.2]) fun a => is K (v_apply_edit a.1 a.2)) := by
  refine fokR T.fn_apply_edit T.glo_apply_edit (fun _ _ _ _ _ _ us hl => match us, hl with | [_, _], _ => rfl) sc_apply_edit (fun _ => rfl) fun cdv A outer s H E hr a hp => ?_
  obtain ⟨contents, edit⟩ := a
  have nd := sc_apply_edit.nd
  have hp : p_apply_edit contents edit := hp
  show SXs _ _ (as (G0 [is K contents, is K edit] _) none) _ _ _ (retV (is K (v_apply_edit contents edit)))
  have hp : EOk contents edit := hp
  obtain ⟨v1, v2, g1, g2, n1, _⟩ := more_tabs T
  obtain ⟨es1, c1, D1⟩ := T.says.tab 0
  obtain ⟨es2, c2, D2⟩ := T.says.tab 1
  refine sx_cons (sx_set 2 nd x_str) ?_
  cases edit with
  | addCraft c =>
    obtain ⟨u, hu, ru⟩ := He.valsB_ok v1 (q := ("add craft", .glo "add_craft")) (by unfold one; simp)
    obtain ⟨fd, F, b⟩ := (ok_add_craft (P := P) (base := base) T).ex
    refine sx_cons (sx_ifT (t_gt (x_lenP (Ps := [is K ("add craft" : Str), is K c]) T.free_len (xs_cons (x_var 1 rfl) xs_nil)) x_int) rfl (sx_last (sx_set 2 nd (x2a (d := T2.mk ("add craft" : Str) c) (x_var 1 rfl))))) ?_
    refine sx_ifx (t_w (w_and (t_inKd D1 g1 (x_var 2 rfl) hu) fun _ => w_and1 (t_eq (x_lenP (Ps := [is K ("add craft" : Str), is K c]) T.free_len (xs_cons (x_var 1 rfl) xs_nil)) x_int))) (fun _ => ?_) (fun h => Bool.noConfusion (show true = false from h))
    refine sx_cons (sx_set 3 nd (x_itemKd D1 g1 (x_var 2 rfl) hu ru)) ?_
    exact sx_last (sx_retD (PX.eq (x_callL 3 F (hr.mono (by decide)) (ok_add_craft (P := P) (base := base) T).kp b rfl (contents, c) hp (xs_cons (x_var 0 rfl) (xs_cons (x2b (d := T2.mk ("add craft" : Str) c) (x_var 1 rfl)) xs_nil)) rfl) rfl) rfl)
  | dropCraft n =>
    obtain ⟨u, hu, ru⟩ := He.valsB_ok v1 (q := ("drop craft", .glo "drop_craft")) (by unfold one; simp)
    obtain ⟨fd, F, b⟩ := (ok_drop_craft (P := P) (base := base) T).ex
    refine sx_cons (sx_ifT (t_gt (x_lenP (Ps := [is K ("drop craft" : Str), is K n]) T.free_len (xs_cons (x_var 1 rfl) xs_nil)) x_int) rfl (sx_last (sx_set 2 nd (x2a (d := T2.mk ("drop craft" : Str) n) (x_var 1 rfl))))) ?_
    refine sx_ifx (t_w (w_and (t_inKd D1 g1 (x_var 2 rfl) hu) fun _ => w_and1 (t_eq (x_lenP (Ps := [is K ("drop craft" : Str), is K n]) T.free_len (xs_cons (x_var 1 rfl) xs_nil)) x_int))) (fun _ => ?_) (fun h => Bool.noConfusion (show true = false from h))
    refine sx_cons (sx_set 3 nd (x_itemKd D1 g1 (x_var 2 rfl) hu ru)) ?_
    exact sx_last (sx_retD (PX.eq (x_callL 3 F (hr.mono (by decide)) (ok_drop_craft (P := P) (base := base) T).kp b rfl (contents, n) hp (xs_cons (x_var 0 rfl) (xs_cons (x2b (d := T2.mk ("drop craft" : Str) n) (x_var 1 rfl)) xs_nil)) rfl) rfl) rfl)
  | setStride s =>
    obtain ⟨u, hu, ru⟩ := He.valsB_ok v1 (q := ("set stride", .glo "set_stride")) (by unfold one; simp)
    obtain ⟨fd, F, b⟩ := (ok_set_stride (P := P) (base := base) T).ex
    refine sx_cons (sx_ifT (t_gt (x_lenP (Ps := [is K ("set stride" : Str), is K s]) T.free_len (xs_cons (x_var 1 rfl) xs_nil)) x_int) rfl (sx_last (sx_set 2 nd (x2a (d := T2.mk ("set stride" : Str) s) (x_var 1 rfl))))) ?_
    refine sx_ifx (t_w (w_and (t_inKd D1 g1 (x_var 2 rfl) hu) fun _ => w_and1 (t_eq (x_lenP (Ps := [is K ("set stride" : Str), is K s]) T.free_len (xs_cons (x_var 1 rfl) xs_nil)) x_int))) (fun _ => ?_) (fun h => Bool.noConfusion (show true = false from h))
    refine sx_cons (sx_set 3 nd (x_itemKd D1 g1 (x_var 2 rfl) hu ru)) ?_
    exact sx_last (sx_retD (PX.eq (x_callL 3 F (hr.mono (by decide)) (ok_set_stride (P := P) (base := base) T).kp b rfl (contents, s) hp (xs_cons (x_var 0 rfl) (xs_cons (x2b (d := T2.mk ("set stride" : Str) s) (x_var 1 rfl)) xs_nil)) rfl) rfl) rfl)
  | setFine f =>
    obtain ⟨u, hu, ru⟩ := He.valsB_ok v1 (q := ("set fineness", .glo "set_fineness")) (by unfold one; simp)
    obtain ⟨fd, F, b⟩ := (ok_set_fineness (P := P) (base := base) T).ex
    refine sx_cons (sx_ifT (t_gt (x_lenP (Ps := [is K ("set fineness" : Str), is K f]) T.free_len (xs_cons (x_var 1 rfl) xs_nil)) x_int) rfl (sx_last (sx_set 2 nd (x2a (d := T2.mk ("set fineness" : Str) f) (x_var 1 rfl))))) ?_
    refine sx_ifx (t_w (w_and (t_inKd D1 g1 (x_var 2 rfl) hu) fun _ => w_and1 (t_eq (x_lenP (Ps := [is K ("set fineness" : Str), is K f]) T.free_len (xs_cons (x_var 1 rfl) xs_nil)) x_int))) (fun _ => ?_) (fun h => Bool.noConfusion (show true = false from h))
    refine sx_cons (sx_set 3 nd (x_itemKd D1 g1 (x_var 2 rfl) hu ru)) ?_
    exact sx_last (sx_retD (PX.eq (x_callL 3 F (hr.mono (by decide)) (ok_set_fineness (P := P) (base := base) T).kp b rfl (contents, f) hp (xs_cons (x_var 0 rfl) (xs_cons (x2b (d := T2.mk ("set fineness" : Str) f) (x_var 1 rfl)) xs_nil)) rfl) rfl) rfl)
  | setDrift n d =>
    obtain ⟨u', hu, ru⟩ := He.valsB_ok v2 (q := ("set drift", .glo "set_drift")) (by unfold two; simp)
    obtain ⟨fd, F, bb⟩ := (ok_set_drift (P := P) (base := base) T).ex
    refine sx_cons (sx_ifT (t_gt (x_lenP (Ps := [is K ("set drift" : Str), is K n, is K d]) T.free_len (xs_cons (x_var 1 rfl) xs_nil)) x_int) rfl (sx_last (sx_set 2 nd (x3a (d := T3.mk ("set drift" : Str) n d) (x_var 1 rfl))))) ?_
    refine sx_ifx (t_w (w_and (d' := false) (t_inKd D1 g1 (x_var 2 rfl) (n1 _ (by simp))) fun h => nomatch h)) (fun h => nomatch h) (fun _ => ?_)
    refine sx_ifx (t_w (w_and (t_inKd D2 g2 (x_var 2 rfl) hu) fun _ => w_and1 (t_eq (x_lenP (Ps := [is K ("set drift" : Str), is K n, is K d]) T.free_len (xs_cons (x_var 1 rfl) xs_nil)) x_int))) (fun _ => ?_) (fun h => Bool.noConfusion (show true = false from h))
    refine sx_cons (sx_set 4 nd (x_itemKd D2 g2 (x_var 2 rfl) hu ru)) ?_
    exact sx_last (sx_retD (PX.eq (x_callL 4 F (hr.mono (by decide)) (ok_set_drift (P := P) (base := base) T).kp bb rfl (contents, n, d) hp (xs_cons (x_var 0 rfl) (xs_cons (x3b (d := T3.mk ("set drift" : Str) n d) (x_var 1 rfl)) (xs_cons (x3c (d := T3.mk ("set drift" : Str) n d) (x_var 1 rfl)) xs_nil))) rfl) rfl) rfl)
  | addBurn n u =>
    obtain ⟨u', hu, ru⟩ := He.valsB_ok v2 (q := ("add burn", .glo "add_burn")) (by unfold two; simp)
    obtain ⟨fd, F, bb⟩ := (ok_add_burn (P := P) (base := base) T).ex
    refine sx_cons (sx_ifT (t_gt (x_lenP (Ps := [is K ("add burn" : Str), is K n, is K u]) T.free_len (xs_cons (x_var 1 rfl) xs_nil)) x_int) rfl (sx_last (sx_set 2 nd (x3a (d := T3.mk ("add burn" : Str) n u) (x_var 1 rfl))))) ?_
    refine sx_ifx (t_w (w_and (d' := false) (t_inKd D1 g1 (x_var 2 rfl) (n1 _ (by simp))) fun h => nomatch h)) (fun h => nomatch h) (fun _ => ?_)
    refine sx_ifx (t_w (w_and (t_inKd D2 g2 (x_var 2 rfl) hu) fun _ => w_and1 (t_eq (x_lenP (Ps := [is K ("add burn" : Str), is K n, is K u]) T.free_len (xs_cons (x_var 1 rfl) xs_nil)) x_int))) (fun _ => ?_) (fun h => Bool.noConfusion (show true = false from h))
    refine sx_cons (sx_set 4 nd (x_itemKd D2 g2 (x_var 2 rfl) hu ru)) ?_
    exact sx_last (sx_retD (PX.eq (x_callL 4 F (hr.mono (by decide)) (ok_add_burn (P := P) (base := base) T).kp bb rfl (contents, n, u) hp (xs_cons (x_var 0 rfl) (xs_cons (x3b (d := T3.mk ("add burn" : Str) n u) (x_var 1 rfl)) (xs_cons (x3c (d := T3.mk ("add burn" : Str) n u) (x_var 1 rfl)) xs_nil))) rfl) rfl) rfl)
  | addSight n u =>
    obtain ⟨u', hu, ru⟩ := He.valsB_ok v2 (q := ("add sighting", .glo "add_sighting")) (by unfold two; simp)
    obtain ⟨fd, F, bb⟩ := (ok_add_sighting (P := P) (base := base) T).ex
    refine sx_cons (sx_ifT (t_gt (x_lenP (Ps := [is K ("add sighting" : Str), is K n, is K u]) T.free_len (xs_cons (x_var 1 rfl) xs_nil)) x_int) rfl (sx_last (sx_set 2 nd (x3a (d := T3.mk ("add sighting" : Str) n u) (x_var 1 rfl))))) ?_
    refine sx_ifx (t_w (w_and (d' := false) (t_inKd D1 g1 (x_var 2 rfl) (n1 _ (by simp))) fun h => nomatch h)) (fun h => nomatch h) (fun _ => ?_)
    refine sx_ifx (t_w (w_and (t_inKd D2 g2 (x_var 2 rfl) hu) fun _ => w_and1 (t_eq (x_lenP (Ps := [is K ("add sighting" : Str), is K n, is K u]) T.free_len (xs_cons (x_var 1 rfl) xs_nil)) x_int))) (fun _ => ?_) (fun h => Bool.noConfusion (show true = false from h))
    refine sx_cons (sx_set 4 nd (x_itemKd D2 g2 (x_var 2 rfl) hu ru)) ?_
    exact sx_last (sx_retD (PX.eq (x_callL 4 F (hr.mono (by decide)) (ok_add_sighting (P := P) (base := base) T).kp bb rfl (contents, n, u) hp (xs_cons (x_var 0 rfl) (xs_cons (x3b (d := T3.mk ("add sighting" : Str) n u) (x_var 1 rfl)) (xs_cons (x3c (d := T3.mk ("add sighting" : Str) n u) (x_var 1 rfl)) xs_nil))) rfl) rfl) rfl)
  | dropSight n t =>
    obtain ⟨u', hu, ru⟩ := He.valsB_ok v2 (q := ("drop sighting", .glo "drop_sighting")) (by unfold two; simp)
    obtain ⟨fd, F, bb⟩ := (ok_drop_sighting (P := P) (base := base) T).ex
    refine sx_cons (sx_ifT (t_gt (x_lenP (Ps := [is K ("drop sighting" : Str), is K n, is K t]) T.free_len (xs_cons (x_var 1 rfl) xs_nil)) x_int) rfl (sx_last (sx_set 2 nd (x3a (d := T3.mk ("drop sighting" : Str) n t) (x_var 1 rfl))))) ?_
    refine sx_ifx (t_w (w_and (d' := false) (t_inKd D1 g1 (x_var 2 rfl) (n1 _ (by simp))) fun h => nomatch h)) (fun h => nomatch h) (fun _ => ?_)
    refine sx_ifx (t_w (w_and (t_inKd D2 g2 (x_var 2 rfl) hu) fun _ => w_and1 (t_eq (x_lenP (Ps := [is K ("drop sighting" : Str), is K n, is K t]) T.free_len (xs_cons (x_var 1 rfl) xs_nil)) x_int))) (fun _ => ?_) (fun h => Bool.noConfusion (show true = false from h))
    refine sx_cons (sx_set 4 nd (x_itemKd D2 g2 (x_var 2 rfl) hu ru)) ?_
    exact sx_last (sx_retD (PX.eq (x_callL 4 F (hr.mono (by decide)) (ok_drop_sighting (P := P) (base := base) T).kp bb rfl (contents, n, t) hp (xs_cons (x_var 0 rfl) (xs_cons (x3b (d := T3.mk ("drop sighting" : Str) n t) (x_var 1 rfl)) (xs_cons (x3c (d := T3.mk ("drop sighting" : Str) n t) (x_var 1 rfl)) xs_nil))) rfl) rfl) rfl)
theorem c_apply_edit {X : Cx} {Γ : Gm} {o : Option Own} {e1 e2 : Expr} {p pos : Pos} {contents : Conts} {edit : Edit} (T : Tx X.w X.K X.mg) (hr : Room 8 X.A) (h : PAX X [e1, e2] Γ o [is X.K contents, is X.K edit]) (hp : p_apply_edit contents edit) (hg : Gl X "apply_edit" := by rfl) (he : starEach [e1, e2] X.env = (false, eval e1 X.env) :: starEach [e2] X.env := by rfl) (hpl : (backTo pos (starEach [e2] X.env)).any (·.1) = false := by rfl) : PX X (.Call (.Name "apply_edit" p) [e1, e2] [] pos) Γ o (is X.K (v_apply_edit contents edit)) := x_callF (ok_apply_edit T) hr (contents, edit) hp h rfl hg (by decide) he hpl
end Or
set_option maxHeartbeats 400000
namespace Or
open PySem PySem.Spec PyProof.Rows L2 L3
local macro_rules | `(tactic| walk_at "gle") => `(tactic| (repeat (first | exact GLe.nil | refine GLe.keep ?_ | refine GLe.drop ?_)))
section
variable {X : Cx} {Γ : Gm} {e : Expr} {pos pos' np : Pos} {y C : Addr} {i : Nat} {fs fs' : List (Str × MP)} {P : MP} {f x : Str} {Bk Ct : Asn} {R : Ret}
theorem sx_fldE (h : putM f P fs = fs') (c : Cls X.K C) (n : NoAttr X.K C f) (he : PX X e Γ (some (ownI y C i fs)) P) (hl : fs.length < 1000 := by exact Nat.lt_of_succ_le (Nat.le_of_ble_eq_true rfl)) (hN : X.N[i]? = some x := by rfl) (hv : Vis X.env.scope x := by first | exact Or.inl rfl | exact Or.inr (Or.inl rfl))
    (hd : (x == ("__debug__" : Str)) = false := by decide) (hcd : (x == ("__classdict__" : Str)) = false := by decide) (hs : swapsWith e (some (.Attribute (.Name x np) f pos')) pos.line X.env = pure false := by rfl) :
    SX X (.Assign [.Attribute (.Name x np) f pos'] e pos) (as Γ (some (ownI y C i fs))) (as Γ (some (ownI y C i fs'))) Bk Ct R := h ▸ sx_fld c n he hl hN hv hd hcd hs
theorem sx_ofldaddE {p q : Int} (h : putM f (is X.K (p + q)) fs = fs') (c : Cls X.K C) (n : NoAttr X.K C f) (hf : fs.lookup f = some (is X.K p)) (he : PX X e Γ (some (ownI y C i fs)) (is X.K q)) (hl : fs.length < 1000 := by exact Nat.lt_of_succ_le (Nat.le_of_ble_eq_true rfl)) (hN : X.N[i]? = some x := by rfl) (hv : Vis X.env.scope x := by first | exact Or.inl rfl | exact Or.inr (Or.inl rfl))
    (hd : (x == ("__debug__" : Str)) = false := by decide) (hcd : (x == ("__classdict__" : Str)) = false := by decide) :
    SX X (.AugAssign (.Attribute (.Name x np) f pos') .Add e pos) (as Γ (some (ownI y C i fs))) (as Γ (some (ownI y C i fs'))) Bk Ct R := h ▸ sx_ofldadd c n hf he hl hN hv hd hcd
end
theorem put_e {K : Fg} {k : Conts} {v : Int} {er er' : List Conts} : putM "earlier" (is K er') (fCat K k v er) = fCat K k v er' := by
  unfold fCat putM
  rw [if_neg (by decide)]
  unfold putM
  rw [if_neg (by decide)]
  unfold putM
  rw [if_pos rfl]
theorem put_c {K : Fg} {k k' : Conts} {v : Int} {er : List Conts} : putM "contents" (is K k') (fCat K k v er) = fCat K k' v er := by
  unfold fCat putM
  rw [if_pos rfl]
theorem put_v {K : Fg} {k : Conts} {v v' : Int} {er : List Conts} : putM "version" (is K v') (fCat K k v er) = fCat K k v' er := by
  unfold fCat putM
  rw [if_neg (by decide)]
  unfold putM
  rw [if_pos rfl]
theorem cut_lo {Ps : List MP} (h : Ps.length ≤ 100) : cutP Ps (some (-100)) none = Ps := by
  unfold cutP
  have e1 : HT.sIx Ps.length 0 (some (-100)) = 0 := by
    show (if (-100 : Int) < 0 then ((-100 : Int) + (Ps.length : Int)).toNat else min (-100 : Int).toNat Ps.length) = 0
    rw [if_pos (by decide)]
    omega
  have e2 : HT.sIx Ps.length Ps.length none = Ps.length := rfl
  rw [e1, e2, List.drop_zero, Nat.sub_zero, List.take_length]
theorem cut_hi {Ps : List MP} {P : MP} : cutP (Ps ++ [P]) none (some (-1)) = Ps := by
  unfold cutP
  have hl : (Ps ++ [P]).length = Ps.length + 1 := by simp
  have e1 : HT.sIx (Ps ++ [P]).length 0 none = 0 := rfl
  have e2 : HT.sIx (Ps ++ [P]).length (Ps ++ [P]).length (some (-1)) = Ps.length := by
    rw [hl]
    show (if (-1 : Int) < 0 then ((-1 : Int) + ((Ps.length + 1 : Nat) : Int)).toNat else min (-1 : Int).toNat (Ps.length + 1)) = Ps.length
    rw [if_pos (by decide)]
    omega
  rw [e1, e2, List.drop_zero, Nat.sub_zero, List.take_left']
  rfl
theorem sc_Catalogue_init : FnScope ["self", "contents"] ["self", "contents"] (defScope st_Catalogue_init) := ⟨rfl, rfl, rfl, by decide +kernel, rfl, by decide +kernel, by decide +kernel⟩
theorem ok_Catalogue {P : Program} {w : World} {K : Fg} {mg : Str → Option Value} {base : Heap} (T : Tx w K mg) : Cok P w K mg base 1 "Catalogue" ["self", "contents"] [] (spM (He.ga K "Catalogue") (fun _ : Conts => True) (fun a => [is K a]) (fun _ => []) (fun a => fCat K a 0 []) fun _ => eqv .non) := by
  refine cokR (C := "Catalogue") T.fn_Catalogue_init T.glo_Catalogue T.mkr_Catalogue (fun _ _ _ _ _ _ us hl => match us, hl with | [_, _], _ => rfl) sc_Catalogue_init (fun _ => rfl) (by decide) fun cdv A outer s H E hr y contents hp => ?_
  have nd := sc_Catalogue_init.nd
  show SXs _ _ (as ((G0 (anyV :: [is K contents]) _).set 0 none) (some (ownI y (He.ga K "Catalogue") 0 []))) (exA _ fun Γ => as Γ (some (ownI y (He.ga K "Catalogue") 0 (fCat K contents 0 [])))) _ _ _
  refine sx_cons (sx_fldN T.cls_Catalogue T.noat_Catalogue_contents (show ("contents" : Str) ∉ ([] : List Str) by decide +kernel) (x_var 1 rfl)) ?_
  refine sx_cons (sx_fldN T.cls_Catalogue T.noat_Catalogue_version (show ("version" : Str) ∉ (["contents"] : List Str) by decide +kernel) x_int) ?_
  refine sx_cons (sx_fldN (P := is K ([] : List Conts)) T.cls_Catalogue T.noat_Catalogue_earlier (show ("earlier" : Str) ∉ (["contents", "version"] : List Str) by decide +kernel) (PX.eq (x_lst xs_nil) rfl)) ?_
  exact sx_end (exA_in _ trivial (as_own (by rfl)))
structure EdA where
  k : Conts
  v : Int
  er : List Conts
  e : Edit
structure UnA where
  k : Conts
  v : Int
  er : List Conts
  b : Conts
def preEd (a : EdA) : Prop := KV a.k ∧ KV (applyE a.k a.e) ∧ EOk a.k a.e ∧ a.er.length ≤ 99
def preUn (a : UnA) : Prop := KV a.k ∧ KV a.b ∧ a.er.length ≤ 99
abbrev spEd (K : Fg) : Sp := spM (He.ga K "Catalogue") preEd (fun a => [is K a.e]) (fun a => fCat K a.k a.v a.er) (fun a => fCat K (applyE a.k a.e) (a.v + 1) (a.er ++ [a.k])) fun _ => anyV
abbrev spUn (K : Fg) : Sp := spM (He.ga K "Catalogue") preUn (fun _ => []) (fun a => fCat K a.k a.v (a.er ++ [a.b])) (fun a => fCat K a.b (a.v + 1) a.er) fun _ => anyV
theorem sc_edit : FnScope ["self", "edit", "after", "told"] ["self", "edit"] (defScope st_Catalogue_edit) := ⟨rfl, rfl, rfl, by decide +kernel, rfl, by decide +kernel, by decide +kernel⟩
theorem ok_edit {P : Program} {w : World} {K : Fg} {mg : Str → Option Value} {base : Heap} (T : Tx w K mg) : ∃ fd, FnOk P w K mg base CX0 9 (He.ma K (He.ga K "Catalogue") "edit") fd ["self", "edit"] (spEd K) ∧ Binds K fd ["self", "edit"] [] := by
  obtain ⟨fd, F⟩ := T.fn_Catalogue_edit
  refine ⟨fd, me_ok F sc_edit (fun _ _ => noA) (fun _ => rfl) (by decide) (fun _ _ _ _ _ _ _ z => z.elim) fun cdv A outer s H E hr y a hp => ?_, F.bindsN (fun _ _ _ _ _ _ us hl => match us, hl with | [_, _], _ => rfl)⟩
  obtain ⟨k, v, er, ed⟩ := a
  obtain ⟨h1, h2, h3, h4⟩ := hp
  have nd := sc_edit.nd
  dsimp only at h1 h2 h3 h4 ⊢
  show SXs _ _ (as ((G0 (anyV :: [is K ed]) _).set 0 none) (some (ownI y (He.ga K "Catalogue") 0 (fCat K k v er)))) noA _ _ (retO (ownI y (He.ga K "Catalogue") 0 (fCat K (applyE k ed) (v + 1) (er ++ [k]))) anyV)
  refine sx_cons (sx_set 2 nd (c_apply_edit T (hr.mono (by decide)) (xs_cons (x_ofld (P := is K k) T.cls_Catalogue T.noat_Catalogue_contents rfl) (xs_cons (x_var 1 rfl) xs_nil)) h3)) ?_
  refine sx_cons (sx_set 3 nd (c_differences T (hr.mono (by decide)) (xs_cons (x_ofld (P := is K k) T.cls_Catalogue T.noat_Catalogue_contents rfl) (xs_cons (x_var 2 rfl) xs_nil)) ⟨h1, h2⟩)) ?_
  refine sx_cons (sx_fldE (P := is K (er ++ [k])) put_e T.cls_Catalogue T.noat_Catalogue_earlier (PX.eq (x_sliceLo (x_cat (Ps := er.map (is K)) (Qs := [is K k]) (x_ofld (P := is K er) T.cls_Catalogue T.noat_Catalogue_earlier rfl) (x_lst (xs_cons (x_ofld (P := is K k) T.cls_Catalogue T.noat_Catalogue_contents rfl) xs_nil)) (by rw [List.length_map, List.length_singleton]; omega)) (x_neg (x_globI T.int_KEPT))) ?_)) ?_
  · rw [cut_lo (by rw [List.length_append, List.length_map, List.length_singleton]; omega)]
    show _ = lstOf ((er ++ [k]).map (is K))
    rw [List.map_append]
    rfl
  refine sx_cons (sx_fldE (P := is K (applyE k ed)) put_c T.cls_Catalogue T.noat_Catalogue_contents (x_var 2 rfl)) ?_
  refine sx_cons (sx_ofldaddE put_v T.cls_Catalogue T.noat_Catalogue_version rfl x_int) ?_
  exact sx_last (sx_retO (x_var 3 rfl) fun _ _ _ => trivial)
theorem sc_undo : FnScope ["self", "before", "told"] ["self"] (defScope st_Catalogue_undo) := ⟨rfl, rfl, rfl, by decide +kernel, rfl, by decide +kernel, by decide +kernel⟩
theorem ok_undo {P : Program} {w : World} {K : Fg} {mg : Str → Option Value} {base : Heap} (T : Tx w K mg) : ∃ fd, FnOk P w K mg base CX0 5 (He.ma K (He.ga K "Catalogue") "undo") fd ["self"] (spUn K) ∧ Binds K fd ["self"] [] := by
  obtain ⟨fd, F⟩ := T.fn_Catalogue_undo
  refine ⟨fd, me_ok F sc_undo (fun _ _ => noA) (fun _ => rfl) (by decide) (fun _ _ _ _ _ _ _ z => z.elim) fun cdv A outer s H E hr y a hp => ?_, F.bindsN (fun _ _ _ _ _ _ us hl => match us, hl with | [_], _ => rfl)⟩
  obtain ⟨k, v, er, b⟩ := a
  obtain ⟨h1, h2, h4⟩ := hp
  have nd := sc_undo.nd
  dsimp only at h1 h2 h4 ⊢
  show SXs _ _ (as ((G0 (anyV :: []) _).set 0 none) (some (ownI y (He.ga K "Catalogue") 0 (fCat K k v (er ++ [b]))))) noA _ _ (retO (ownI y (He.ga K "Catalogue") 0 (fCat K b (v + 1) er)) anyV)
  refine sx_ifx (t_not (t_listL (Ps := (er ++ [b]).map (is K)) (x_ofld (P := is K (er ++ [b])) T.cls_Catalogue T.noat_Catalogue_earlier rfl))) (fun h => ?_) (fun _ => ?_)
  · exfalso
    cases er <;> simp at h
  refine sx_cons (sx_set 1 nd (xLv (d := er ++ [b]) (i := er.length) (a := b) (x_ofld (P := is K (er ++ [b])) T.cls_Catalogue T.noat_Catalogue_earlier rfl) (x_neg x_int) (by rw [List.length_append, List.length_singleton]; exact ixN_last) (by simp))) ?_
  refine sx_cons (sx_set 2 nd (c_differences T (hr.mono (by decide)) (xs_cons (x_ofld (P := is K k) T.cls_Catalogue T.noat_Catalogue_contents rfl) (xs_cons (x_var 1 rfl) xs_nil)) ⟨h1, h2⟩)) ?_
  refine sx_cons (sx_fldE (P := is K er) put_e T.cls_Catalogue T.noat_Catalogue_earlier (PX.eq (x_sliceHi (Ps := er.map (is K) ++ [is K b]) (PX.eq (x_ofld (P := is K (er ++ [b])) T.cls_Catalogue T.noat_Catalogue_earlier rfl) ?_) (x_neg x_int)) ?_)) ?_
  · show lstOf ((er ++ [b]).map (is K)) = _
    rw [List.map_append]
    rfl
  · rw [cut_hi]
    rfl
  refine sx_cons (sx_fldE (P := is K b) put_c T.cls_Catalogue T.noat_Catalogue_contents (x_var 1 rfl)) ?_
  refine sx_cons (sx_ofldaddE put_v T.cls_Catalogue T.noat_Catalogue_version rfl x_int) ?_
  exact sx_last (sx_retO (x_var 2 rfl) fun _ _ _ => trivial)
end Or
set_option maxHeartbeats 400000
/-! The law's own functions, in plain Lean. -/
namespace Or
open PySem L2 L3
def rowA (z : Int) : Int := if z < 0 then 1 - 2 * z else z
def rowC (b k : Int) : Int := ((b + 1) * 48271 + (k + 1) * 69621) % 2147483647
def rowB (b k : Int) : Int := if b < 1000000000 then (rowC b k * 16807 + k * 40014 + 11) % 2147483399 * 2147483029 + rowC b k * rowC b k % 2147482951 else b
def cell (s : List Int) (k : Int) : Int := if k < s.length then s.getD k.toNat 0 else 0
def lrow (s : List Int) (k : Int) : Int := rowB (rowA (cell s k)) k
def sprRow (w r : Int) : Nat → Int
  | 0 => r
  | n + 1 => sprRow w r n / w
def sprAt (w r sp : Int) (i : Nat) : Int := sprRow w r i % w - sp
def spread (r : Int) (n : Nat) (sp : Int) : List Int := (List.range n).map (sprAt (2 * sp + 1) r sp)
def boxAt (r sp wide : Int) (k : Nat) : Iv := ⟨sprAt (2 * sp + 1) r sp k - sprRow (wide + 1) (r / (2 * sp + 1) ^ 3) k % (wide + 1), sprAt (2 * sp + 1) r sp k + sprRow (wide + 1) (r / (2 * sp + 1) ^ 3) k % (wide + 1)⟩
def lbox (r sp wide : Int) : Box := ⟨boxAt r sp wide 0, boxAt r sp wide 1, boxAt r sp wide 2⟩
def wof (a : Iv) : Int := a.b - a.a + 1
def member (x : Box) (r : Int) : Pt := ⟨x.a.a + r % wof x.a, x.b.a + r / wof x.a % wof x.b, x.c.a + r / wof x.a / wof x.b % wof x.c⟩
def sqOf (p : Pt) : Int := p.a * p.a + p.b * p.b + p.c * p.c
def pullC (mu bulge z s r c k : Int) : Int := -mu * c / (s * r) + bulge * c * (5 * z * z - k * s) / (s * s * s * r)
def lpull (mu bulge : Int) (p : Pt) : Pt := ⟨pullC mu bulge p.c (sqOf p) (isq (sqOf p)) p.a 1, pullC mu bulge p.c (sqOf p) (isq (sqOf p)) p.b 1, pullC mu bulge p.c (sqOf p) (isq (sqOf p)) p.c 3⟩
abbrev BT := T3 Int Int Box
def actT (t : Int) (u : BT) : Bool := decide (u.a ≤ t) && decide (t < u.b)
def lpush (burns : List BT) (t : Int) : Box := match burns.find? (actT t) with
  | some u => u.c
  | none => nothing
/-- the drawn world -/
structure Wd where
  mu : Int
  bulge : Int
  drift : Int
  start : Int
  fine : Int
  many : Int
  place : Box
  speed : Box
  burns : List BT
instance : Rep Wd := ⟨fun K d => is K (T9.mk d.mu d.bulge d.drift d.start d.fine d.many d.place d.speed d.burns)⟩
def pick {α : Type} (l : List α) (i : Int) (d : α) : α := l.getD i.toNat d
def bgAt (f r : Int) : Nat → Int
  | 0 => f
  | k + 1 => bgAt f r k + 1 + r / 5 % 3 + r / 7 % 2
def burnAt (f r : Int) (k : Nat) : BT := ⟨bgAt f r k, bgAt f r k + 1 + r / 5 % 3, lbox (r / 12 + (k : Int) * 7919) 30 (pick [0, 4] ((k : Int) % 2) 0)⟩
def wMu (r : Int) : Int := pick [1 + r / 7 % 1000, 1 + r / 7 % 10 ^ 7, 1 + r / 7 % 10 ^ 9] (r % 3) 0
def wBulge (r : Int) : Int := pick [0, r / 11 % 10 ^ 12] (r / 3 % 2) 0
def wDrift (r : Int) : Int := pick [0, 1, r / 5 % 6] (r % 3) 0
def wPlace (r : Int) : Box := lbox (r / 3) (pick [30, 300, 5000] (r % 3) 0) (pick [0, 3, 40] (r / 17 % 3) 0)
def wSpeed (r : Int) : Box := lbox (r / 3) (pick [5, 60] (r % 2) 0) (pick [0, 2, 9] (r / 13 % 3) 0)
def wBurns (st r : Int) : List BT := (List.range (r / 4 % 3).toNat).map (burnAt (st + r % 4) r)
def lworld (s : List Int) : Wd := ⟨wMu (lrow s 0), wBulge (lrow s 0), wDrift (lrow s 1), lrow s 1 / 31 % 9, lrow s 1 / 279 % 3, 3 + lrow s 1 / 837 % 9, wPlace (lrow s 2), wSpeed (lrow s 3), wBurns (lrow s 1 / 31 % 9) (lrow s 6)⟩
/-! ### motions -/
abbrev PV := T2 Pt Pt
def addP (a b : Pt) : Pt := ⟨a.a + b.a, a.b + b.b, a.c + b.c⟩
def l3 (l : List Int) : Pt := ⟨l.getD 0 0, l.getD 1 0, l.getD 2 0⟩
/-- what moves a craft -/
structure Mv where
  s : List Int
  mu : Int
  bulge : Int
  drift : Int
  burns : List BT
  start : Int
def fastOf (m : Mv) (k : Nat) (x : PV) : Pt := addP (addP (addP x.b (lpull m.mu m.bulge x.a)) (member (lpush m.burns (m.start + (k : Int))) (lrow m.s (8 + (k : Int))))) (l3 (spread (lrow m.s (8 + (k : Int)) / 10 ^ 9) 3 m.drift))
def stepM (m : Mv) (k : Nat) (x : PV) : PV := ⟨addP x.a (fastOf m k x), fastOf m k x⟩
def zeroP (p : Pt) : Bool := decide (p.a = 0) && (decide (p.b = 0) && decide (p.c = 0))
def motGo (m : Mv) : Nat → Nat → List PV → PV → List PV
  | 0, _, l, _ => l
  | n + 1, k, l, x => if zeroP x.a = true then l else motGo m n (k + 1) (l ++ [stepM m k x]) (stepM m k x)
def mot0 (s : List Int) (place speed : Box) : PV := ⟨member place (lrow s 4), member speed (lrow s 5)⟩
def motion (m : Mv) (place speed : Box) (many : Int) : List PV := motGo m many.toNat 0 [mot0 m.s place speed] (mot0 m.s place speed)
/-! ### sightings -/
def seenRow (r : Int) : Nat → Int
  | 0 => r
  | k + 1 => seenRow r k / 15 + (k : Int) * 31
def aroundP (p : Pt) (wide less : Int) : Box := ⟨⟨p.a - wide, p.a + wide + less⟩, ⟨p.b - wide, p.b + wide + less⟩, ⟨p.c - wide, p.c + wide + less⟩⟩
def seenBox (r : Int) (p : Pt) : Box := aroundP p (pick [0, r / 3 % 5, r / 3 % 400] (r / 5 % 3) 0) (pick [0, r / 7 % 3] (r / 2 % 2) 0)
abbrev ST := T2 Int Box
def seenOne (r start : Int) (mot : List PV) (k : Nat) : Option ST := if seenRow r k % 3 = 0 then (mot[k]?).map fun x => ⟨start + (k : Int), seenBox (seenRow r k) x.a⟩ else none
def lseen (s : List Int) (mot : List PV) (start : Int) : List ST := (List.range mot.length).filterMap (seenOne (lrow s 7) start mot)
def toBurn (u : BT) : Burn := ⟨u.a, u.b, u.c⟩
def toSight (u : ST) : Sight := ⟨u.a, u.b⟩
def lcraft (name : Str) (start : Int) (place speed : Box) (drift : Int) (burns : List BT) (seen : List ST) : Craft := ⟨name, start, place, speed, drift, ⟨burns.map toBurn⟩, ⟨seen.map toSight⟩⟩
def lin (x : Box) (p : Pt) : Bool := Box.has x p
/-! ### two craft -/
def wMv (s : List Int) (w : Wd) : Mv := ⟨s, w.mu, w.bulge, w.drift, w.burns, w.start⟩
def oneOf (s : List Int) : List PV := motion (wMv s (lworld s)) (lworld s).place (lworld s).speed (lworld s).many
def firstOf (s : List Int) : Craft := lcraft "a" (lworld s).start (lworld s).place (lworld s).speed (lworld s).drift (lworld s).burns (lseen s (oneOf s) (lworld s).start)
def movedIv (a : Iv) (d : Int) : Iv := ⟨a.a + d, a.b + d⟩
def hereOf (s : List Int) : Box :=
  let sh := spread (lrow s 31 / 4) 3 (pick [0, 5, 90, 900] (lrow s 31 % 4) 0)
  ⟨movedIv (lworld s).place.a (sh.getD 0 0), movedIv (lworld s).place.b (sh.getD 1 0), movedIv (lworld s).place.c (sh.getD 2 0)⟩
def swIv (a : Iv) (r : Int) : Iv := ⟨a.a + r / 9 % 5 - 2, a.b + r / 9 % 5 - 2⟩
def swiftOf (s : List Int) : Box := ⟨swIv (lworld s).speed.a (lrow s 31), swIv (lworld s).speed.b (lrow s 31), swIv (lworld s).speed.c (lrow s 31)⟩
def laterOf (s : List Int) : Int := (lworld s).start + pick [0, lrow s 31 / 11 % 4] (lrow s 31 / 3 % 2) 0
def cellsOf (s : List Int) : List Int := (List.range 30).map fun (k : Nat) => lrow s (62 - (k : Int))
def otherMv (s : List Int) : Mv := ⟨cellsOf s, (lworld s).mu, (lworld s).bulge, (lworld s).drift, [], laterOf s⟩
def otherOf (s : List Int) : List PV := motion (otherMv s) (hereOf s) (swiftOf s) (lworld s).many
def secondOf (s : List Int) : Craft := lcraft "b" (laterOf s) (hereOf s) (swiftOf s) (lworld s).drift [] (lseen (cellsOf s) (otherOf s) (laterOf s))
def contsOf (s : List Int) : Conts := ⟨⟨(lworld s).mu, (lworld s).bulge, ⟨1, 0, 1⟩⟩, 1, (lworld s).fine, ⟨[firstOf s, secondOf s]⟩, ⟨[]⟩⟩
def ltwo (s : List Int) : T3 Conts (List PV) (List PV) := ⟨contsOf s, oneOf s, otherOf s⟩
/-! ### what the law asks -/
def lheld (x : Box) (ps : List Pt) : Bool := ps.all (lin x)
def placesOf (mot : List PV) (start : Int) (p : Piece) : List Pt := (rng p.b p.e).map fun t => (mot.getD (t - start).toNat ⟨⟨0, 0, 0⟩, ⟨0, 0, 0⟩⟩).a
where rng (a b : Int) : List Int := (List.range (b + 1 - a).toNat).map fun (i : Nat) => a + (i : Int)
def pieceHolds (mot : List PV) (start : Int) (p : Piece) : Bool := if p.e - start < mot.length then p.parts.l.any fun x => lheld x (placesOf mot start p) else true
def courseHolds (k : Conts) (c : Craft) (mot : List PV) (u : Int) : Bool := (course k c u).pieces.all (pieceHolds mot c.start)
def claimsHold (mot : List PV) (cl : List (List State)) : Bool := (List.range cl.length).all fun k => (cl.getD k []).any fun s => sHas s (mot.getD k ⟨⟨0, 0, 0⟩, ⟨0, 0, 0⟩⟩).a (mot.getD k ⟨⟨0, 0, 0⟩, ⟨0, 0, 0⟩⟩).b
def paperHolds (k : Conts) (c : Craft) (mot : List PV) (u : Int) : Bool :=
  let j := journey k.body k.fine c u
  if j.ending = "lost" then true
  else if (refusedAt (certOf k c j)).isSome || decide (((certOf k c j).claims.length : Int) ≠ u - c.start + 1) then false
  else claimsHold mot (certOf k c j).claims
def pvAt (mot : List PV) (t : Int) : Pt := (mot.getD t.toNat ⟨⟨0, 0, 0⟩, ⟨0, 0, 0⟩⟩).a
def sqd (p q : Pt) : Int := (p.a - q.a) * (p.a - q.a) + (p.b - q.b) * (p.b - q.b) + (p.c - q.c) * (p.c - q.c)
def tickTrue (v : Str) (sq d : Int) : Bool := !(decide (v = "void") || (decide (v = "impossible") && decide (sq ≤ d * d))) && !(decide (v = "certain") && decide (d * d < sq))
def toldTrue (a b : Craft) (one other : List PV) (d : Int) (t : Told) : Bool := (placesOf.rng t.b t.e).all fun x => tickTrue t.v (sqd (pvAt one (x - a.start)) (pvAt other (x - b.start))) d
def mLow (a b : Craft) : Int := max a.start b.start
def mEnd (a b : Craft) (one other : List PV) : Int := min (a.start + one.length) (b.start + other.length) - 1
def meetingTrue (k : Conts) (a b : Craft) (one other : List PV) (d : Int) : Bool := (meeting k a b (mLow a b) (mEnd a b one other) d).all (toldTrue a b one other d)
/-! ### edits drawn -/
def seenEdit (c : Craft) (mot : List PV) (r : Int) : Edit := .addSight c.name ⟨c.start + r % mot.length, aroundP (pvAt mot (r % mot.length)) (pick [0, 4, 90] (r / 12 % 3) 0) (r / 36 % 2)⟩
def nmOf (i : Int) : Str := pick ["a", "b"] i ""
def newC (d : Int) : Craft := ⟨"c", d % 5, lbox d 300 9, lbox (d / 7) 9 1, d % 2, ⟨[]⟩, ⟨[]⟩⟩
def ledit (k : Conts) (one other : List PV) (drift r : Int) : Edit :=
  let c := craftOf k (nmOf (r % 2))
  let d := r / 18
  if r / 2 % 9 < 3 then seenEdit c (pick [one, other] (r % 2) []) d
  else if r / 2 % 9 = 3 ∧ 0 < c.sights.l.length then .dropSight c.name (c.sights.l.getD (d % c.sights.l.length).toNat ⟨0, nothing⟩).at_
  else if r / 2 % 9 = 4 then .setDrift c.name (drift + d % 3)
  else if r / 2 % 9 = 5 then .setStride (1 + d % 4)
  else if r / 2 % 9 = 6 then .setFine (d % 3)
  else if r / 2 % 9 = 7 ∧ k.crafts.l.length = 3 then .dropCraft "c"
  else .addCraft (newC d)
end Or
set_option maxHeartbeats 400000
namespace Or
open PySem PySem.Spec PyProof.Rows L2 L3
local macro_rules | `(tactic| walk_at "gle") => `(tactic| (repeat (first | exact GLe.nil | refine GLe.keep ?_ | refine GLe.drop ?_)))
theorem rowC_nn (b k : Int) : 0 ≤ rowC b k := Int.emod_nonneg _ (by decide)
theorem rowC_lt (b k : Int) : rowC b k < 2147483647 := Int.emod_lt_of_pos _ (by decide)
theorem p9 : (10 : Int) ^ Int.toNat 9 = 1000000000 := by decide
theorem small_mul {i : Int} (h0 : 0 ≤ i) (h1 : i ≤ 2 ^ 40) {j : Int} : CMul i j := .inl ⟨by omega, by omega⟩
theorem small_mulr {j : Int} (h0 : 0 ≤ j) (h1 : j ≤ 2 ^ 40) {i : Int} : CMul i j := .inr ⟨by omega, by omega⟩
section
variable {X : Cx} {Γ : Gm} {o : Option Own} {e b : Expr} {α : Type} [Rep α] {pos : Pos}
theorem ixN_in {n : Nat} {z : Int} (h0 : 0 ≤ z) (h1 : z < n) : ixN n z = some z.toNat := by
  obtain ⟨k, rfl⟩ := Int.eq_ofNat_of_zero_le h0
  exact ixN_nat (by omega)
theorem pick_get {l : List α} {z : Int} (d : α) (h0 : 0 ≤ z) (h1 : z < l.length) : l[z.toNat]? = some (pick l z d) := by
  unfold pick
  rw [List.getD_eq_getElem?_getD, List.getElem?_eq_getElem (by omega)]
  rfl
theorem x_pick {l : List α} {z : Int} (d : α) (h : PX X e Γ o (is X.K l)) (hb : PX X b Γ o (is X.K z)) (h0 : 0 ≤ z) (h1 : z < l.length) (hs : PlainIx b := by intro _ _; rfl) : PX X (.Subscript e b pos) Γ o (is X.K (pick l z d)) :=
  xLv h hb (ixN_in h0 h1) (pick_get d h0 h1) hs
theorem x_toR {l : List α} (h : PX X e Γ o (is X.K l)) : PX X e Γ o (is X.K (Rdl.mk l)) := h.le fun B v ⟨p, vs, h1, h2, h3⟩ => ⟨p, vs, h1, SqL.of h2, h3⟩
end
theorem sc__law_row : FnScope ["_law_script", "_law_k", "_law_row_here"] ["_law_script", "_law_k"] (defScope st__law_row) := ⟨rfl, rfl, rfl, by decide +kernel, rfl, by decide +kernel, by decide +kernel⟩
abbrev v__law_row (l_script : Rdl (Int)) (l_k : Int) : Int := lrow l_script.l l_k
def p__law_row (l_script : Rdl (Int)) (l_k : Int) : Prop := 0 ≤ l_k ∧ l_k ≤ 1000
theorem ok__law_row {P : Program} {w : World} {K : Fg} {mg : Str → Option Value} {base : Heap} (T : Tx w K mg) : Fok P w K mg base 1 "_law_row" ["_law_script", "_law_k"] (spF (fun a : Rdl (Int) × Int => p__law_row a.1 a.2) (fun a : Rdl (Int) × Int => [is K a.1, is K a.2]) fun a => is K (v__law_row a.1 a.2)) := by
  refine fokR T.fn__law_row T.glo__law_row (fun _ _ _ _ _ _ us hl => match us, hl with | [_, _], _ => rfl) sc__law_row (fun _ => rfl) fun cdv A outer s H E hr a hp => ?_
  obtain ⟨l_script, l_k⟩ := a
  have nd := sc__law_row.nd
  have hp : p__law_row l_script l_k := hp
  show SXs _ _ (as (G0 [is K l_script, is K l_k] _) none) _ _ _ (retV (is K (v__law_row l_script l_k)))
  obtain ⟨h0, h1⟩ := hp
  refine sx_cons (sx_set 2 nd x_int) ?_
  refine sx_cons (M := as [some (is K l_script), some (is K l_k), some (is K (cell l_script.l l_k))] none) (sx_if (t_lt (x_var 1 rfl) (x_lenR T.free_len (xs_cons (x_var 0 rfl) xs_nil))) (fun h => ?_) (fun h => ?_)) ?_
  · have h := of_decide_eq_true h
    have e : cell l_script.l l_k = pick l_script.l l_k 0 := if_pos h
    rw [e]
    exact sx_last (sx_set 2 nd (x_intI T.free_int (xs_cons (xRv (x_var 0 rfl) (x_var 1 rfl) (ixN_in h0 h) (pick_get 0 h0 h)) xs_nil)))
  · have e : cell l_script.l l_k = 0 := if_neg (of_decide_eq_false h)
    rw [e]
    exact sx_end (as_le (by walk_at "gle"))
  generalize hz : cell l_script.l l_k = z
  refine sx_cons (M := as [some (is K l_script), some (is K l_k), some (is K (rowA z))] none) (sx_if (t_lt (x_var 2 rfl) x_int) (fun h => ?_) (fun h => ?_)) ?_
  · have e : rowA z = 1 - 2 * z := if_pos (of_decide_eq_true h)
    rw [e]
    exact sx_last (sx_set 2 nd (x_sub x_int (x_muls x_int (x_var 2 rfl) (small_mul (by decide) (by decide)))))
  · have e : rowA z = z := if_neg (of_decide_eq_false h)
    rw [e]
    exact sx_end (as_le (by walk_at "gle"))
  have ev : v__law_row l_script l_k = rowB (rowA z) l_k := by rw [← hz]; rfl
  rw [ev]
  generalize rowA z = b
  refine sx_cons (M := as [some (is K l_script), some (is K l_k), some (is K (rowB b l_k))] none) (sx_if (t_lt (x_var 2 rfl) (x_pow x_int x_int (by unfold CPow; decide))) (fun h => ?_) (fun h => ?_)) ?_
  · have h := of_decide_eq_true h
    rw [p9] at h
    have e : rowB b l_k = (rowC b l_k * 16807 + l_k * 40014 + 11) % 2147483399 * 2147483029 + rowC b l_k * rowC b l_k % 2147482951 := if_pos h
    rw [e]
    have c0 := rowC_nn b l_k
    have c1 := rowC_lt b l_k
    refine sx_cons (sx_set (P := is K (rowC b l_k)) 2 nd (x_mod (x_intI T.free_int (xs_cons (x_add (x_muls (x_add (x_var 2 rfl) x_int) x_int (small_mulr (by decide) (by decide))) (x_muls (x_add (x_var 1 rfl) x_int) x_int (small_mulr (by decide) (by decide)))) xs_nil)) x_int (by decide))) ?_
    exact sx_last (sx_set 2 nd (x_add (x_muls (x_mod (x_intI T.free_int (xs_cons (x_add (x_add (x_muls (x_var 2 rfl) x_int (small_mulr (by decide) (by decide))) (x_muls (x_var 1 rfl) x_int (small_mulr (by decide) (by decide)))) x_int) xs_nil)) x_int (by decide)) x_int (small_mulr (by decide) (by decide))) (x_mod (x_intI T.free_int (xs_cons (x_muls (x_var 2 rfl) (x_var 2 rfl) (small_mul c0 (by omega))) xs_nil)) x_int (by decide))))
  · have h := of_decide_eq_false h
    rw [p9] at h
    have e : rowB b l_k = b := if_neg h
    rw [e]
    exact sx_end (as_le (by walk_at "gle"))
  exact sx_last (sx_retD (x_var 2 rfl) rfl)
theorem c__law_row {X : Cx} {Γ : Gm} {o : Option Own} {e1 e2 : Expr} {p pos : Pos} {l_script : Rdl (Int)} {l_k : Int} (T : Tx X.w X.K X.mg) (hr : Room 1 X.A) (h : PAX X [e1, e2] Γ o [is X.K l_script, is X.K l_k]) (hp : p__law_row l_script l_k) (hg : Gl X "_law_row" := by rfl) (he : starEach [e1, e2] X.env = (false, eval e1 X.env) :: starEach [e2] X.env := by rfl) (hpl : (backTo pos (starEach [e2] X.env)).any (·.1) = false := by rfl) : PX X (.Call (.Name "_law_row" p) [e1, e2] [] pos) Γ o (is X.K (v__law_row l_script l_k)) := x_callF (ok__law_row T) hr (l_script, l_k) hp h rfl hg (by decide) he hpl
theorem sm_range {x : Int} (n : Nat) (h0 : 0 ≤ x) (h1 : x < 2 ^ n) : Sm n x := by
  unfold Sm
  have e : ((2 ^ n : Nat) : Int) = 2 ^ n := by simp
  omega
theorem rng_app {α : Type} {f : Nat → α} {k : Nat} : (List.range (k + 1)).map f = (List.range k).map f ++ [f k] := by
  rw [List.range_succ, List.map_append]
  rfl
theorem sc__law_spread : FnScope ["_law_row_here", "_law_places", "_law_span", "_law_numbers", "_law_k"] ["_law_row_here", "_law_places", "_law_span"] (defScope st__law_spread) := ⟨rfl, rfl, rfl, by decide +kernel, rfl, by decide +kernel, by decide +kernel⟩
abbrev v__law_spread (l_row_here : Int) (l_places : Int) (l_span : Int) : List (Int) := spread l_row_here l_places.toNat l_span
def p__law_spread (l_row_here : Int) (l_places : Int) (l_span : Int) : Prop := (0 ≤ l_places ∧ l_places ≤ 10) ∧ (0 ≤ l_span ∧ l_span ≤ 1000000)
theorem ok__law_spread {P : Program} {w : World} {K : Fg} {mg : Str → Option Value} {base : Heap} (T : Tx w K mg) : Fok P w K mg base 1 "_law_spread" ["_law_row_here", "_law_places", "_law_span"] (spF (fun a : Int × Int × Int => p__law_spread a.1 a.2.1 a.2.2) (fun a : Int × Int × Int => [is K a.1, is K a.2.1, is K a.2.2]) fun a => is K (v__law_spread a.1 a.2.1 a.2.2)) := by
  refine fokR T.fn__law_spread T.glo__law_spread (fun _ _ _ _ _ _ us hl => match us, hl with | [_, _, _], _ => rfl) sc__law_spread (fun _ => rfl) fun cdv A outer s H E hr a hp => ?_
  obtain ⟨l_row_here, l_places, l_span⟩ := a
  have nd := sc__law_spread.nd
  have hp : p__law_spread l_row_here l_places l_span := hp
  show SXs _ _ (as (G0 [is K l_row_here, is K l_places, is K l_span] _) none) _ _ _ (retV (is K (v__law_spread l_row_here l_places l_span)))
  obtain ⟨⟨h0, h1⟩, ⟨h2, h3⟩⟩ := hp
  have hw : Sm 30 (2 * l_span + 1) := sm_range 30 (by omega) (by omega)
  refine sx_cons (sx_new (α := Int) 3 nd) ?_
  refine sx_forU (ι := Unit) (rngL 0 l_places.toNat) (fun k _ => [(0, some (is K (sprRow (2 * l_span + 1) l_row_here k)))]) (fun k _ => some (ownL K 3 ((List.range k).map (sprAt (2 * l_span + 1) l_row_here l_span)))) (fun _ _ => True) () (i_rng1 T.free_range (xs_cons (x_var 1 rfl) xs_nil) (by omega)) trivial (by walk_at "gle") rfl (fun k _ a ha _ => ?_) (fun _ _ => ?_)
  · obtain ⟨hk, rfl⟩ := rngL_get ha
    refine ⟨_, [4], g_name 4 nd, own_ninL (by decide), ?_⟩
    refine sx_cons (sx_append (y := sprAt (2 * l_span + 1) l_row_here l_span k) (x_sub (x_mod (x_intI T.free_int (xs_cons (x_var 0 rfl) xs_nil)) (x_add (x_muls x_int (x_var 2 rfl) (small_mul (by decide) (by decide))) x_int) (by omega)) (x_var 2 rfl)) (by rw [List.length_map, List.length_range]; omega)) ?_
    refine sx_cons (sx_set 0 nd (x_div (x_var 0 rfl) (x_add (x_muls x_int (x_var 2 rfl) (small_mul (by decide) (by decide))) x_int) (hw.divW (by omega)))) (sx_endU () trivial (by walk_at "gle") ?_)
    rw [rng_app]
    rfl
  · rw [rngL_len]
    refine sx_freeze ?_
    exact sx_last (sx_retD (x_var 3 rfl) rfl)
theorem c__law_spread {X : Cx} {Γ : Gm} {o : Option Own} {e1 e2 e3 : Expr} {p pos : Pos} {l_row_here : Int} {l_places : Int} {l_span : Int} (T : Tx X.w X.K X.mg) (hr : Room 1 X.A) (h : PAX X [e1, e2, e3] Γ o [is X.K l_row_here, is X.K l_places, is X.K l_span]) (hp : p__law_spread l_row_here l_places l_span) (hg : Gl X "_law_spread" := by rfl) (he : starEach [e1, e2, e3] X.env = (false, eval e1 X.env) :: starEach [e2, e3] X.env := by rfl) (hpl : (backTo pos (starEach [e2, e3] X.env)).any (·.1) = false := by rfl) : PX X (.Call (.Name "_law_spread" p) [e1, e2, e3] [] pos) Γ o (is X.K (v__law_spread l_row_here l_places l_span)) := x_callF (ok__law_spread T) hr (l_row_here, l_places, l_span) hp h rfl hg (by decide) he hpl
theorem cube_sm {x : Int} (h0 : 1 ≤ x) (h1 : x < 2 ^ 30) : 0 < x ^ Int.toNat 3 ∧ Sm 100 (x ^ Int.toNat 3) := by
  have e : x ^ Int.toNat 3 = x * x * x := by
    show x ^ 3 = _
    rw [Int.pow_succ, Int.pow_succ, Int.pow_succ, Int.pow_zero, Int.one_mul]
  have s : Sm 30 x := sm_range 30 (by omega) h1
  have s3 : Sm (30 + 30 + 30) (x * x * x) := (s.mul s).mul s
  rw [e]
  exact ⟨Int.mul_pos (Int.mul_pos (by omega) (by omega)) (by omega), s3.mono (by decide)⟩
theorem spread_get {r : Int} {n i : Nat} {sp : Int} (h : i < n) : (spread r n sp)[i]? = some (sprAt (2 * sp + 1) r sp i) := by
  unfold spread
  rw [List.getElem?_map, List.getElem?_range h]
  rfl
theorem spread_len {r : Int} {n : Nat} {sp : Int} : (spread r n sp).length = n := by simp [spread]
theorem sc__law_box : FnScope ["_law_row_here", "_law_span", "_law_wide", "_law_centres", "_law_box_here", "_law_k", "_law_half"] ["_law_row_here", "_law_span", "_law_wide"] (defScope st__law_box) := ⟨rfl, rfl, rfl, by decide +kernel, rfl, by decide +kernel, by decide +kernel⟩
abbrev v__law_box (l_row_here : Int) (l_span : Int) (l_wide : Int) : Box := lbox l_row_here l_span l_wide
def p__law_box (l_row_here : Int) (l_span : Int) (l_wide : Int) : Prop := (0 ≤ l_span ∧ l_span ≤ 1000000) ∧ (0 ≤ l_wide ∧ l_wide ≤ 1000000)
theorem ok__law_box {P : Program} {w : World} {K : Fg} {mg : Str → Option Value} {base : Heap} (T : Tx w K mg) : Fok P w K mg base 2 "_law_box" ["_law_row_here", "_law_span", "_law_wide"] (spF (fun a : Int × Int × Int => p__law_box a.1 a.2.1 a.2.2) (fun a : Int × Int × Int => [is K a.1, is K a.2.1, is K a.2.2]) fun a => is K (v__law_box a.1 a.2.1 a.2.2)) := by
  refine fokR T.fn__law_box T.glo__law_box (fun _ _ _ _ _ _ us hl => match us, hl with | [_, _, _], _ => rfl) sc__law_box (fun _ => rfl) fun cdv A outer s H E hr a hp => ?_
  obtain ⟨l_row_here, l_span, l_wide⟩ := a
  have nd := sc__law_box.nd
  have hp : p__law_box l_row_here l_span l_wide := hp
  show SXs _ _ (as (G0 [is K l_row_here, is K l_span, is K l_wide] _) none) _ _ _ (retV (is K (v__law_box l_row_here l_span l_wide)))
  obtain ⟨⟨h2, h3⟩, ⟨h4, h5⟩⟩ := hp
  obtain ⟨c1, c2⟩ := cube_sm (x := 2 * l_span + 1) (by omega) (by omega)
  have hw : Sm 30 (l_wide + 1) := sm_range 30 (by omega) (by omega)
  refine sx_cons (sx_set (P := is K (spread l_row_here 3 l_span)) 3 nd (c__law_spread T (hr.mono (by decide)) (xs_cons (x_var 0 rfl) (xs_cons x_int (xs_cons (x_var 1 rfl) xs_nil))) ⟨⟨by decide, by decide⟩, ⟨h2, h3⟩⟩)) ?_
  refine sx_cons (sx_set (P := is K (l_row_here / (2 * l_span + 1) ^ 3)) 0 nd (x_div (x_var 0 rfl) (x_pow (x_add (x_muls x_int (x_var 1 rfl) (small_mul (by decide) (by decide))) x_int) x_int ⟨by decide, by decide, by omega⟩) (c2.divW c1))) ?_
  refine sx_cons (sx_new (α := Iv) 4 nd) ?_
  refine sx_forU (ι := Unit) (rngL 0 3) (fun k _ => [(0, some (is K (sprRow (l_wide + 1) (l_row_here / (2 * l_span + 1) ^ 3) k))), (6, none)]) (fun k _ => some (ownL K 4 ((List.range k).map (boxAt l_row_here l_span l_wide)))) (fun _ _ => True) () (i_rng1 T.free_range (xs_cons x_int xs_nil) (by decide)) trivial (by walk_at "gle") rfl (fun k _ a ha _ => ?_) (fun _ _ => ?_)
  · obtain ⟨hk, rfl⟩ := rngL_get ha
    refine ⟨_, [5], g_name 5 nd, own_ninL (by decide), ?_⟩
    have ek : (0 : Int) + (k : Int) = (k : Int) := by omega
    rw [ek]
    have hix : ixN (spread l_row_here 3 l_span).length (k : Int) = some k := by rw [spread_len]; exact ixN_nat hk
    refine sx_cons (sx_set 6 nd (x_mod (x_intI T.free_int (xs_cons (x_var 0 rfl) xs_nil)) (x_add (x_var 2 rfl) x_int) (by omega))) ?_
    refine sx_cons (sx_set 0 nd (x_div (x_var 0 rfl) (x_add (x_var 2 rfl) x_int) (hw.divW (by omega)))) ?_
    refine sx_cons (sx_append (y := boxAt l_row_here l_span l_wide k) (x_t2 (xs_cons (x_sub (xLv (x_var 3 rfl) (x_var 5 rfl) hix (spread_get hk)) (x_var 6 rfl)) (xs_cons (x_add (xLv (x_var 3 rfl) (x_var 5 rfl) hix (spread_get hk)) (x_var 6 rfl)) xs_nil))) (by rw [List.length_map, List.length_range]; omega)) (sx_endU () trivial (by walk_at "gle") ?_)
    rw [rng_app]
    rfl
  · exact sx_last (sx_retD (x_t3 (xs_cons (x_oix x_int rfl rfl) (xs_cons (x_oix x_int rfl rfl) (xs_cons (x_oix x_int rfl rfl) xs_nil)))) rfl)
theorem c__law_box {X : Cx} {Γ : Gm} {o : Option Own} {e1 e2 e3 : Expr} {p pos : Pos} {l_row_here : Int} {l_span : Int} {l_wide : Int} (T : Tx X.w X.K X.mg) (hr : Room 2 X.A) (h : PAX X [e1, e2, e3] Γ o [is X.K l_row_here, is X.K l_span, is X.K l_wide]) (hp : p__law_box l_row_here l_span l_wide) (hg : Gl X "_law_box" := by rfl) (he : starEach [e1, e2, e3] X.env = (false, eval e1 X.env) :: starEach [e2, e3] X.env := by rfl) (hpl : (backTo pos (starEach [e2, e3] X.env)).any (·.1) = false := by rfl) : PX X (.Call (.Name "_law_box" p) [e1, e2, e3] [] pos) Γ o (is X.K (v__law_box l_row_here l_span l_wide)) := x_callF (ok__law_box T) hr (l_row_here, l_span, l_wide) hp h rfl hg (by decide) he hpl
def memR (x : Box) (r : Int) : Nat → Int
  | 0 => r
  | k + 1 => memR x r k / wof (Box.at_ x k)
def memAt (x : Box) (r : Int) (k : Nat) : Int := (Box.at_ x k).a + memR x r k % wof (Box.at_ x k)
theorem wof_sm {a : Iv} (h : IV a) (b : BI 100 a) : 0 < wof a ∧ Sm 103 (wof a) := by
  unfold wof
  refine ⟨by unfold IV at h; omega, ?_⟩
  have h1 : Sm 101 (a.b - a.a) := b.2.sub b.1
  have h2 : Sm 101 1 := by unfold Sm; decide
  exact (h1.add h2).mono (by decide)
theorem at_iv {x : Box} (h : BV x) (k : Nat) : IV (Box.at_ x k) := by
  match k with
  | 0 => exact h.1
  | 1 => exact h.2.1
  | k + 2 => exact h.2.2
theorem at_bi {n : Nat} {x : Box} (h : BB n x) (k : Nat) : BI n (Box.at_ x k) := by
  match k with
  | 0 => exact h.1
  | 1 => exact h.2.1
  | k + 2 => exact h.2.2
theorem at_of {x : Box} {k : Nat} {a : Iv} (h : [x.a, x.b, x.c][k]? = some a) : k < 3 ∧ a = Box.at_ x k := by
  match k with
  | 0 => exact ⟨by decide, (Option.some.inj h).symm⟩
  | 1 => exact ⟨by decide, (Option.some.inj h).symm⟩
  | 2 => exact ⟨by decide, (Option.some.inj h).symm⟩
  | k + 3 => simp at h
theorem sc__law_member : FnScope ["_law_box_here", "_law_row_here", "_law_point", "_law_low", "_law_high"] ["_law_box_here", "_law_row_here"] (defScope st__law_member) := ⟨rfl, rfl, rfl, by decide +kernel, rfl, by decide +kernel, by decide +kernel⟩
abbrev v__law_member (l_box_here : Box) (l_row_here : Int) : Pt := member l_box_here l_row_here
def p__law_member (l_box_here : Box) (l_row_here : Int) : Prop := BV l_box_here ∧ BB 100 l_box_here
theorem ok__law_member {P : Program} {w : World} {K : Fg} {mg : Str → Option Value} {base : Heap} (T : Tx w K mg) : Fok P w K mg base 1 "_law_member" ["_law_box_here", "_law_row_here"] (spF (fun a : Box × Int => p__law_member a.1 a.2) (fun a : Box × Int => [is K a.1, is K a.2]) fun a => is K (v__law_member a.1 a.2)) := by
  refine fokR T.fn__law_member T.glo__law_member (fun _ _ _ _ _ _ us hl => match us, hl with | [_, _], _ => rfl) sc__law_member (fun _ => rfl) fun cdv A outer s H E hr a hp => ?_
  obtain ⟨l_box_here, l_row_here⟩ := a
  have nd := sc__law_member.nd
  have hp : p__law_member l_box_here l_row_here := hp
  show SXs _ _ (as (G0 [is K l_box_here, is K l_row_here] _) none) _ _ _ (retV (is K (v__law_member l_box_here l_row_here)))
  obtain ⟨hv, hb⟩ := hp
  refine sx_cons (sx_new (α := Int) 2 nd) ?_
  refine sx_forU (ι := Unit) [l_box_here.a, l_box_here.b, l_box_here.c] (fun k _ => [(1, some (is K (memR l_box_here l_row_here k)))]) (fun k _ => some (ownL K 2 ((List.range k).map (memAt l_box_here l_row_here)))) (fun _ _ => True) () (i_3 (x_var 0 rfl)) trivial (by walk_at "gle") rfl (fun k _ a ha _ => ?_) (fun _ _ => ?_)
  · obtain ⟨hk, rfl⟩ := at_of ha
    obtain ⟨w1, w2⟩ := wof_sm (at_iv hv k) (at_bi hb k)
    refine ⟨_, _, g_tup (Ps := [is K (Box.at_ l_box_here k).a, is K (Box.at_ l_box_here k).b]) rfl (gs_cons (g_name 3 nd) (gs_cons (g_name 4 nd) gs_nil)) rfl, own_ninL (by decide), ?_⟩
    refine sx_cons (sx_append (y := memAt l_box_here l_row_here k) (x_add (x_var 3 rfl) (x_mod (x_intI T.free_int (xs_cons (x_var 1 rfl) xs_nil)) (x_add (x_sub (x_var 4 rfl) (x_var 3 rfl)) x_int) w1)) (by rw [List.length_map, List.length_range]; omega)) ?_
    refine sx_cons (sx_set 1 nd (x_div (x_var 1 rfl) (x_add (x_sub (x_var 4 rfl) (x_var 3 rfl)) x_int) (w2.divW w1))) (sx_endU () trivial (by walk_at "gle") ?_)
    rw [rng_app]
    rfl
  · exact sx_last (sx_retD (x_t3 (xs_cons (x_oix x_int rfl rfl) (xs_cons (x_oix x_int rfl rfl) (xs_cons (x_oix x_int rfl rfl) xs_nil)))) rfl)
theorem c__law_member {X : Cx} {Γ : Gm} {o : Option Own} {e1 e2 : Expr} {p pos : Pos} {l_box_here : Box} {l_row_here : Int} (T : Tx X.w X.K X.mg) (hr : Room 1 X.A) (h : PAX X [e1, e2] Γ o [is X.K l_box_here, is X.K l_row_here]) (hp : p__law_member l_box_here l_row_here) (hg : Gl X "_law_member" := by rfl) (he : starEach [e1, e2] X.env = (false, eval e1 X.env) :: starEach [e2] X.env := by rfl) (hpl : (backTo pos (starEach [e2] X.env)).any (·.1) = false := by rfl) : PX X (.Call (.Name "_law_member" p) [e1, e2] [] pos) Γ o (is X.K (v__law_member l_box_here l_row_here)) := x_callF (ok__law_member T) hr (l_box_here, l_row_here) hp h rfl hg (by decide) he hpl
theorem sc__law_push : FnScope ["_law_burns", "_law_at", "_law_begin", "_law_end", "_law_box_here"] ["_law_burns", "_law_at"] (defScope st__law_push) := ⟨rfl, rfl, rfl, by decide +kernel, rfl, by decide +kernel, by decide +kernel⟩
abbrev v__law_push (l_burns : List (BT)) (l_at : Int) : Box := lpush l_burns l_at
theorem ok__law_push {P : Program} {w : World} {K : Fg} {mg : Str → Option Value} {base : Heap} (T : Tx w K mg) : Fok P w K mg base 1 "_law_push" ["_law_burns", "_law_at"] (spF (fun a : List (BT) × Int => True) (fun a : List (BT) × Int => [is K a.1, is K a.2]) fun a => is K (v__law_push a.1 a.2)) := by
  refine fokR T.fn__law_push T.glo__law_push (fun _ _ _ _ _ _ us hl => match us, hl with | [_, _], _ => rfl) sc__law_push (fun _ => rfl) fun cdv A outer s H E hr a hp => ?_
  obtain ⟨l_burns, l_at⟩ := a
  have nd := sc__law_push.nd
  show SXs _ _ (as (G0 [is K l_burns, is K l_at] _) none) _ _ _ (retV (is K (v__law_push l_burns l_at)))
  refine sx_forU (ι := Unit) l_burns (fun _ _ => []) (fun _ _ => none) (fun k _ => ∀ (j : Nat) (u : BT), j < k → l_burns[j]? = some u → actT l_at u = false) () (i_L (x_var 0 rfl)) (fun j u h => absurd h (Nat.not_lt_zero j)) (by walk_at "gle") rfl (fun k _ a ha hk => ?_) (fun _ hk => ?_)
  · refine ⟨_, _, g_tup (Ps := [is K a.a, is K a.b, is K a.c]) rfl (gs_cons (g_name 2 nd) (gs_cons (g_name 3 nd) (gs_cons (g_name 4 nd) gs_nil))) rfl, no_own, ?_⟩
    refine sx_ifx (t_chain op_le op_lt (x_var 2 rfl) (x_var 1 rfl) (x_var 3 rfl)) (fun h => ?_) (fun h => ?_)
    · exact sx_last (sx_retD (x_var 4 rfl) (by unfold v__law_push lpush; rw [find_at ha h hk]))
    · exact sx_endU () (upto (p := actT l_at) ha h hk) (by walk_at "gle") rfl
  · have z := find_no (p := actT l_at) fun j z hz => hk j z (lt_of hz) hz
    exact sx_last (sx_retD (x := nothing) (x_t3 (xs_cons (x_t2 (xs_cons x_int (xs_cons x_int xs_nil))) (xs_cons (x_t2 (xs_cons x_int (xs_cons x_int xs_nil))) (xs_cons (x_t2 (xs_cons x_int (xs_cons x_int xs_nil))) xs_nil)))) (by unfold v__law_push lpush; rw [z]))
theorem c__law_push {X : Cx} {Γ : Gm} {o : Option Own} {e1 e2 : Expr} {p pos : Pos} {l_burns : List (BT)} {l_at : Int} (T : Tx X.w X.K X.mg) (hr : Room 1 X.A) (h : PAX X [e1, e2] Γ o [is X.K l_burns, is X.K l_at]) (hg : Gl X "_law_push" := by rfl) (he : starEach [e1, e2] X.env = (false, eval e1 X.env) :: starEach [e2] X.env := by rfl) (hpl : (backTo pos (starEach [e2] X.env)).any (·.1) = false := by rfl) : PX X (.Call (.Name "_law_push" p) [e1, e2] [] pos) Γ o (is X.K (v__law_push l_burns l_at)) := x_callF (ok__law_push T) hr (l_burns, l_at) trivial h rfl hg (by decide) he hpl
end Or
set_option maxHeartbeats 400000
namespace Or
open PySem PySem.Spec PyProof.Rows L2 L3
local macro_rules | `(tactic| walk_at "gle") => `(tactic| (repeat (first | exact GLe.nil | refine GLe.keep ?_ | refine GLe.drop ?_)))
theorem two_pos (k : Nat) : (0 : Int) < 2 ^ k := Int.pow_pos (by decide)
theorem two_sm {k : Nat} (h : k ≤ 501) : Sm 510 ((2 : Int) ^ k) := by
  have e : ((2 : Int) ^ k).natAbs = 2 ^ k := by
    rw [Int.natAbs_pow]
    rfl
  unfold Sm
  rw [e]
  exact Nat.pow_lt_pow_right (by decide) (by omega)
theorem two_sq {k : Nat} {n : Int} (hn : Sm 1000 n) (h0 : 0 ≤ n) (h : (2 : Int) ^ k * 2 ^ k ≤ n) : k < 500 := by
  by_cases q : k < 500
  · exact q
  · exfalso
    have e1 : (2 : Int) ^ k * 2 ^ k = ((2 ^ (k + k) : Nat) : Int) := by
      rw [← Int.pow_add]
      simp
    rw [e1] at h
    unfold Sm at hn
    have h2 : 2 ^ 1000 ≤ 2 ^ (k + k) := Nat.pow_le_pow_right (by decide) (by omega)
    have h3 : ((2 ^ 1000 : Nat) : Int) ≤ ((2 ^ (k + k) : Nat) : Int) := Int.ofNat_le.mpr h2
    have h4 : (n.natAbs : Int) < ((2 ^ 1000 : Nat) : Int) := Int.ofNat_lt.mpr hn
    omega
theorem isq_of {n r : Int} (h0 : 0 ≤ r) (h1 : r * r ≤ n) (h2 : n < (r + 1) * (r + 1)) : r = isq n := by
  have hn : 0 ≤ n := Int.le_trans (sq_nn r) h1
  obtain ⟨g0, g1, g2⟩ := isq_spec hn
  generalize isq n = q at g0 g1 g2
  by_cases a : r < q
  · have : (r + 1) * (r + 1) ≤ q * q := sq_le (by omega) (by omega)
    omega
  · by_cases b : q < r
    · have : (q + 1) * (q + 1) ≤ r * r := sq_le (by omega) (by omega)
      omega
    · omega
structure BI2 (n : Int) (j k : Nat) (x : Int × Int) : Prop where
  l0 : 0 ≤ x.1
  l1 : x.1 * x.1 ≤ n
  h1 : n < x.2 * x.2
  lt : x.1 < x.2
  df : x.2 - x.1 ≤ 2 ^ (j - k)
  hi : x.2 ≤ 2 ^ 501
theorem BI2.done {n : Int} {j k : Nat} {x : Int × Int} (h : BI2 n j k x) (d : x.2 - x.1 ≤ 1) : x.1 = isq n := by
  have e : x.2 = x.1 + 1 := by have := h.lt; omega
  have h2 := h.h1
  rw [e] at h2
  exact isq_of h.l0 h.l1 h2
theorem BI2.half {n : Int} {j k : Nat} {x : Int × Int} (h : BI2 n j k x) (d : ¬ x.2 - x.1 ≤ 1) : x.1 < (x.1 + x.2) / 2 ∧ (x.1 + x.2) / 2 < x.2 ∧ x.2 - (x.1 + x.2) / 2 ≤ 2 ^ (j - (k + 1)) ∧ (x.1 + x.2) / 2 - x.1 ≤ 2 ^ (j - (k + 1)) := by
  have hd := h.df
  have hlt := h.lt
  have e : ∃ m, j - k = m + 1 := by
    cases q : j - k with
    | zero => rw [q] at hd; exact absurd hd (by rw [Int.pow_zero]; omega)
    | succ m => exact ⟨m, rfl⟩
  obtain ⟨m, hm⟩ := e
  have e2 : j - (k + 1) = m := by omega
  rw [hm, Int.pow_succ] at hd
  rw [e2]
  generalize (2 : Int) ^ m = p at hd ⊢
  omega
theorem sc__law_root : FnScope ["_law_n", "_law_low", "_law_high", "_law_k", "_law_middle"] ["_law_n"] (defScope st__law_root) := ⟨rfl, rfl, rfl, by decide +kernel, rfl, by decide +kernel, by decide +kernel⟩
abbrev v__law_root (l_n : Int) : Int := isq l_n
def p__law_root (l_n : Int) : Prop := 0 ≤ l_n ∧ Sm 1000 l_n
theorem ok__law_root {P : Program} {w : World} {K : Fg} {mg : Str → Option Value} {base : Heap} (T : Tx w K mg) : Fok P w K mg base 1 "_law_root" ["_law_n"] (spF (fun a : Int => p__law_root a) (fun a : Int => [is K a]) fun a => is K (v__law_root a)) := by
  refine fokR T.fn__law_root T.glo__law_root (fun _ _ _ _ _ _ us hl => match us, hl with | [_], _ => rfl) sc__law_root (fun _ => rfl) fun cdv A outer s H E hr l_n hp => ?_
  have nd := sc__law_root.nd
  have hp : p__law_root l_n := hp
  show SXs _ _ (as (G0 [is K l_n] _) none) _ _ _ (retV (is K (v__law_root l_n)))
  obtain ⟨h0, hs⟩ := hp
  refine sx_cons (sx_set 1 nd x_int) ?_
  refine sx_cons (sx_set (P := is K ((2 : Int) ^ 0)) 2 nd x_int) ?_
  refine sx_forUB (ι := Unit) (exA (fun j : Nat => j ≤ 501 ∧ l_n < (2 : Int) ^ j * 2 ^ j) fun j => as [some (is K l_n), some (is K (0 : Int)), some (is K ((2 : Int) ^ j)), none, none] none) (rngL 0 600) (fun k _ => [(2, some (is K ((2 : Int) ^ k)))]) (fun _ _ => none) (fun k _ => k = 0 ∨ (2 : Int) ^ (k - 1) * 2 ^ (k - 1) ≤ l_n) () (i_rng1 T.free_range (xs_cons x_int xs_nil) (by decide)) (.inl rfl) (by walk_at "gle") rfl (fun k _ a ha hk => ?_) (fun _ hk => ?_) (sx_ex fun j hj => ?_)
  · refine ⟨_, [3], g_name 3 nd, no_own, ?_⟩
    have hk5 : k ≤ 501 := by
      rcases hk with rfl | hk
      · decide
      · have := two_sq hs h0 hk
        omega
    have ts := two_sm hk5
    refine sx_ifx (t_gt (x_mul (x_var 2 rfl) (x_var 2 rfl) (ts.mulW ts)) (x_var 0 rfl)) (fun h => ?_) (fun h => ?_)
    · exact sx_pre (exA_in k ⟨hk5, of_decide_eq_true h⟩ (as_le (by walk_at "gle"))) (sx_last sx_break)
    · have h := of_decide_eq_false h
      refine sx_cons (sx_set (P := is K ((2 : Int) ^ (k + 1))) 2 nd (PX.eq (x_mul (x_var 2 rfl) x_int (ts.mulW (m := 2) (by unfold Sm; decide))) (by rw [Int.pow_succ]; rfl))) (sx_endU () (.inr ?_) (by walk_at "gle") rfl)
      show (2 : Int) ^ (k + 1 - 1) * 2 ^ (k + 1 - 1) ≤ l_n
      rw [Nat.add_sub_cancel]
      omega
  · exfalso
    rcases hk with hk | hk
    · rw [rngL_len] at hk; cases hk
    · rw [rngL_len] at hk
      have := two_sq hs h0 hk
      omega
  · obtain ⟨hj1, hj2⟩ := hj
    have fin : ∀ {k : Nat} {x : Int × Int}, BI2 l_n j k x → x.2 - x.1 ≤ 1 → SXs (cX P w K mg base ["_law_n", "_law_low", "_law_high", "_law_k", "_law_middle"] "_law_root" (defScope st__law_root) (He.ga K "_law_root") cdv A outer s H E) [(defBody st__law_root).getD 4 (.Pass ⟨0, 0, 0, 0⟩)] (as [some (is K l_n), some (is K x.1), some (is K x.2), none, none] none) noA noA noA (retV (is K (isq l_n))) := fun hx hd => sx_last (sx_retD (x_var 1 rfl) (hx.done hd))
    refine sx_forUB (ι := Int × Int) (exA (fun q : Nat × (Int × Int) => BI2 l_n j q.1 q.2 ∧ q.2.2 - q.2.1 ≤ 1) fun q => as [some (is K l_n), some (is K q.2.1), some (is K q.2.2), none, none] none) (rngL 0 600) (fun _ x => [(1, some (is K x.1)), (2, some (is K x.2)), (3, none), (4, none)]) (fun _ _ => none) (fun k x => BI2 l_n j k x) (0, (2 : Int) ^ j) (i_rng1 T.free_range (xs_cons x_int xs_nil) (by decide)) ⟨Int.le_refl _, h0, hj2, two_pos j, by show (2 : Int) ^ j - 0 ≤ _; rw [Nat.sub_zero]; omega, ?_⟩ (by walk_at "gle") rfl (fun k x a ha hx => ?_) (fun x hx => ?_) (sx_ex fun q hq => fin hq.1 hq.2)
    · show (2 : Int) ^ j ≤ 2 ^ 501
      have h1 : 2 ^ j ≤ 2 ^ 501 := Nat.pow_le_pow_right (by decide) hj1
      have h2 : ((2 ^ j : Nat) : Int) ≤ ((2 ^ 501 : Nat) : Int) := Int.ofNat_le.mpr h1
      have e1 : ((2 ^ j : Nat) : Int) = 2 ^ j := by simp
      have e2 : ((2 ^ 501 : Nat) : Int) = 2 ^ 501 := by decide
      rw [e1, e2] at h2
      exact h2
    · refine ⟨_, [3], g_name 3 nd, no_own, ?_⟩
      obtain ⟨lo, hi⟩ := x
      refine sx_ifx (t_le (x_sub (x_var 2 rfl) (x_var 1 rfl)) x_int) (fun h => ?_) (fun h => ?_)
      · exact sx_pre (exA_in (k, (lo, hi)) ⟨hx, of_decide_eq_true h⟩ (as_le (by walk_at "gle"))) (sx_last sx_break)
      · have hd := of_decide_eq_false h
        obtain ⟨q1, q2, q3, q4⟩ := hx.half hd
        have l0 := hx.l0
        have hh := hx.hi
        dsimp only at q1 q2 q3 q4 l0 hh
        refine sx_cons (sx_set 4 nd (x_div (x_add (x_var 1 rfl) (x_var 2 rfl)) x_int (Sm.divW (n := 2) (by unfold Sm; decide) (by decide)))) ?_
        have hm : Sm 510 ((lo + hi) / 2) := by
          refine Sm.mono (n := 502) ?_ (by decide)
          have e : (2 : Int) ^ 501 = ((2 ^ 501 : Nat) : Int) := by decide
          rw [e] at hh
          unfold Sm
          have e2 : (2 : Nat) ^ 502 = 2 ^ 501 * 2 := Nat.pow_succ ..
          rw [e2]
          generalize (2 : Nat) ^ 501 = p at hh
          omega
        refine sx_last (sx_if (t_le (x_mul (x_var 4 rfl) (x_var 4 rfl) (hm.mulW hm)) (x_var 0 rfl)) (fun h => ?_) (fun h => ?_))
        · refine sx_cons (sx_set 1 nd (x_var 4 rfl)) (sx_endU ((lo + hi) / 2, hi) ⟨by show 0 ≤ (lo + hi) / 2; omega, of_decide_eq_true h, hx.h1, q2, q3, hh⟩ (by walk_at "gle") rfl)
        · have h := of_decide_eq_false h
          refine sx_cons (sx_set 2 nd (x_var 4 rfl)) (sx_endU (lo, (lo + hi) / 2) ⟨l0, hx.l1, Int.not_le.mp h, q1, q4, by show (lo + hi) / 2 ≤ 2 ^ 501; omega⟩ (by walk_at "gle") rfl)
    · rw [rngL_len] at hx
      refine fin hx ?_
      have := hx.df
      have e : j - 600 = 0 := by omega
      rw [e, Int.pow_zero] at this
      exact this
theorem c__law_root {X : Cx} {Γ : Gm} {o : Option Own} {e1 : Expr} {p pos : Pos} {l_n : Int} (T : Tx X.w X.K X.mg) (hr : Room 1 X.A) (h : PAX X [e1] Γ o [is X.K l_n]) (hp : p__law_root l_n) (hg : Gl X "_law_root" := by rfl) (he : starEach [e1] X.env = (false, eval e1 X.env) :: starEach [] X.env := by rfl) (hpl : (backTo pos (starEach [] X.env)).any (·.1) = false := by rfl) : PX X (.Call (.Name "_law_root" p) [e1] [] pos) Γ o (is X.K (v__law_root l_n)) := x_callF (ok__law_root T) hr (l_n) hp h rfl hg (by decide) he hpl
theorem pull_side {mu bulge x y z : Int} (h1 : Sm 100 mu) (h2 : Sm 100 bulge) (hx : Sm 100 x) (hy : Sm 100 y) (hz : Sm 100 z) : Sm 210 (x * x + y * y + z * z) := by
  have a := hx.mul hx
  have b := hy.mul hy
  have c := hz.mul hz
  exact ((a.add b).add (c.mono (by decide))).mono (by decide)
theorem sqOf_nn (p : Pt) : 0 ≤ sqOf p := by
  have h1 := sq_nn p.a
  have h2 := sq_nn p.b
  have h3 := sq_nn p.c
  unfold sqOf
  omega
theorem sq_zero {x : Int} (h : x * x = 0) : x = 0 := by
  rcases Int.mul_eq_zero.mp h with h | h <;> exact h
theorem sqOf_pos {p : Pt} (h : zeroP p = false) : 1 ≤ sqOf p := by
  have h0 := sqOf_nn p
  by_cases q : sqOf p = 0
  · exfalso
    have h1 := sq_nn p.a
    have h2 := sq_nn p.b
    have h3 := sq_nn p.c
    unfold sqOf at q
    have e1 : p.a = 0 := sq_zero (by omega)
    have e2 : p.b = 0 := sq_zero (by omega)
    have e3 : p.c = 0 := sq_zero (by omega)
    unfold zeroP at h
    rw [e1, e2, e3] at h
    exact absurd h (by decide)
  · omega
theorem sc__law_pull : FnScope ["_law_mu", "_law_bulge", "_law_place", "_law_x", "_law_y", "_law_z", "_law_s", "_law_r", "_law_pulls", "_law_c", "_law_k"] ["_law_mu", "_law_bulge", "_law_place"] (defScope st__law_pull) := ⟨rfl, rfl, rfl, by decide +kernel, rfl, by decide +kernel, by decide +kernel⟩
abbrev v__law_pull (l_mu : Int) (l_bulge : Int) (l_place : Pt) : Pt := lpull l_mu l_bulge l_place
def p__law_pull (l_mu : Int) (l_bulge : Int) (l_place : Pt) : Prop := (Sm 100 l_mu ∧ Sm 100 l_bulge) ∧ (Sm 100 l_place.a ∧ Sm 100 l_place.b ∧ Sm 100 l_place.c) ∧ zeroP l_place = false
theorem ok__law_pull {P : Program} {w : World} {K : Fg} {mg : Str → Option Value} {base : Heap} (T : Tx w K mg) : Fok P w K mg base 2 "_law_pull" ["_law_mu", "_law_bulge", "_law_place"] (spF (fun a : Int × Int × Pt => p__law_pull a.1 a.2.1 a.2.2) (fun a : Int × Int × Pt => [is K a.1, is K a.2.1, is K a.2.2]) fun a => is K (v__law_pull a.1 a.2.1 a.2.2)) := by
  refine fokR T.fn__law_pull T.glo__law_pull (fun _ _ _ _ _ _ us hl => match us, hl with | [_, _, _], _ => rfl) sc__law_pull (fun _ => rfl) fun cdv A outer s H E hr a hp => ?_
  obtain ⟨l_mu, l_bulge, l_place⟩ := a
  have nd := sc__law_pull.nd
  have hp : p__law_pull l_mu l_bulge l_place := hp
  show SXs _ _ (as (G0 [is K l_mu, is K l_bulge, is K l_place] _) none) _ _ _ (retV (is K (v__law_pull l_mu l_bulge l_place)))
  obtain ⟨⟨hm, hb⟩, ⟨hx, hy, hz⟩, hn⟩ := hp
  have hs : Sm 210 (sqOf l_place) := pull_side hm hb hx hy hz
  have hs1 := sqOf_pos hn
  have hr1 : 1 ≤ isq (sqOf l_place) := isq_pos hs1
  have hr0 : Sm 210 (isq (sqOf l_place)) := Sm.isq (by omega) hs
  have hsr : 0 < sqOf l_place * isq (sqOf l_place) := Int.mul_pos (by omega) (by omega)
  have hss : 0 < sqOf l_place * sqOf l_place * sqOf l_place * isq (sqOf l_place) := Int.mul_pos (Int.mul_pos (Int.mul_pos (by omega) (by omega)) (by omega)) (by omega)
  have ev : v__law_pull l_mu l_bulge l_place = ⟨pullC l_mu l_bulge l_place.c (sqOf l_place) (isq (sqOf l_place)) l_place.a 1, pullC l_mu l_bulge l_place.c (sqOf l_place) (isq (sqOf l_place)) l_place.b 1, pullC l_mu l_bulge l_place.c (sqOf l_place) (isq (sqOf l_place)) l_place.c 3⟩ := rfl
  refine sx_cons (sx_asg (P := tupOf _ [is _ l_place.a, is _ l_place.b, is _ l_place.c]) (x_var 2 rfl) (g_tup rfl (gs_cons (g_name 3 nd) (gs_cons (g_name 4 nd) (gs_cons (g_name 5 nd) gs_nil))) rfl) no_own) ?_
  refine sx_cons (sx_set (P := is K (sqOf l_place)) 6 nd (x_add (x_add (x_mul (x_var 3 rfl) (x_var 3 rfl) (hx.mulW hx)) (x_mul (x_var 4 rfl) (x_var 4 rfl) (hy.mulW hy))) (x_mul (x_var 5 rfl) (x_var 5 rfl) (hz.mulW hz)))) ?_
  refine sx_cons (sx_set 7 nd (c__law_root T (hr.mono (by decide)) (xs_cons (x_var 6 rfl) xs_nil) ⟨sqOf_nn _, hs.mono (by decide)⟩)) ?_
  unfold v__law_root
  generalize sqOf l_place = s at hs hs1 hr1 hr0 hsr hss ev ⊢
  generalize isq s = r at hr1 hr0 hsr hss ev ⊢
  refine sx_cons (sx_new (α := Int) 8 nd) ?_
  have hk : ∀ q ∈ ([⟨l_place.a, 1⟩, ⟨l_place.b, 1⟩, ⟨l_place.c, 3⟩] : List (T2 Int Int)), Sm 100 q.a ∧ Sm 2 q.b := by
    intro q hq
    have s1 : Sm 2 1 := by unfold Sm; decide
    have s3 : Sm 2 3 := by unfold Sm; decide
    rcases List.mem_cons.mp hq with e | hq
    · rw [e]; exact ⟨hx, s1⟩
    · rcases List.mem_cons.mp hq with e | hq
      · rw [e]; exact ⟨hy, s1⟩
      · rw [List.mem_singleton.mp hq]; exact ⟨hz, s3⟩
  refine sx_forU (ι := Unit) ([⟨l_place.a, 1⟩, ⟨l_place.b, 1⟩, ⟨l_place.c, 3⟩] : List (T2 Int Int)) (fun _ _ => []) (fun k _ => some (ownL K 8 ((([⟨l_place.a, 1⟩, ⟨l_place.b, 1⟩, ⟨l_place.c, 3⟩] : List (T2 Int Int)).take k).map fun q => pullC l_mu l_bulge l_place.c s r q.a q.b))) (fun _ _ => True) () (i_lst (PX.eq (x_lst (xs_cons (x_t2 (xs_cons (x_var 3 rfl) (xs_cons x_int xs_nil))) (xs_cons (x_t2 (xs_cons (x_var 4 rfl) (xs_cons x_int xs_nil))) (xs_cons (x_t2 (xs_cons (x_var 5 rfl) (xs_cons x_int xs_nil))) xs_nil)))) rfl)) trivial (by walk_at "gle") rfl (fun k _ a ha _ => ?_) (fun _ _ => ?_)
  · obtain ⟨ka, kb⟩ := hk a (List.mem_of_getElem? ha)
    have five : Sm 3 5 := by unfold Sm; decide
    refine ⟨_, _, g_tup (Ps := [is K a.a, is K a.b]) rfl (gs_cons (g_name 9 nd) (gs_cons (g_name 10 nd) gs_nil)) rfl, own_ninL (by decide), ?_⟩
    have hz5 : Sm 103 (5 * l_place.c) := five.mul hz
    have hz6 : Sm 203 (5 * l_place.c * l_place.c) := hz5.mul hz
    have hks : Sm 212 (a.b * s) := kb.mul hs
    have hdf : Sm 213 (5 * l_place.c * l_place.c - a.b * s) := (hz6.mono (by decide)).sub hks
    have hbc : Sm 200 (l_bulge * a.a) := hb.mul ka
    have hss2 : Sm 420 (s * s) := hs.mul hs
    have hss3 : Sm 630 (s * s * s) := hss2.mul hs
    have hss4 : Sm 840 (s * s * s * r) := hss3.mul hr0
    have hsr2 : Sm 420 (s * r) := hs.mul hr0
    refine sx_cons (sx_append (y := pullC l_mu l_bulge l_place.c s r a.a a.b) (x_add (x_div (x_mul (x_neg (x_var 0 rfl)) (x_var 9 rfl) (hm.neg.mulW ka)) (x_mul (x_var 6 rfl) (x_var 7 rfl) (hs.mulW hr0)) (hsr2.divW hsr)) (x_div (x_mul (x_mul (x_var 1 rfl) (x_var 9 rfl) (hb.mulW ka)) (x_sub (x_mul (x_mul x_int (x_var 5 rfl) (five.mulW hz)) (x_var 5 rfl) (hz5.mulW hz)) (x_mul (x_var 10 rfl) (x_var 6 rfl) (kb.mulW hs))) (hbc.mulW hdf)) (x_mul (x_mul (x_mul (x_var 6 rfl) (x_var 6 rfl) (hs.mulW hs)) (x_var 6 rfl) (hss2.mulW hs)) (x_var 7 rfl) (hss3.mulW hr0)) (hss4.divW hss))) ?_) (sx_endU () trivial (by walk_at "gle") ?_)
    · rw [List.length_map, List.length_take]
      show min k 3 ≤ 1000
      omega
    · rw [map_succ' ha]
      rfl
  · exact sx_last (sx_retD (x_t3 (xs_cons (x_oix x_int rfl rfl) (xs_cons (x_oix x_int rfl rfl) (xs_cons (x_oix x_int rfl rfl) xs_nil)))) ev.symm)
theorem c__law_pull {X : Cx} {Γ : Gm} {o : Option Own} {e1 e2 e3 : Expr} {p pos : Pos} {l_mu : Int} {l_bulge : Int} {l_place : Pt} (T : Tx X.w X.K X.mg) (hr : Room 2 X.A) (h : PAX X [e1, e2, e3] Γ o [is X.K l_mu, is X.K l_bulge, is X.K l_place]) (hp : p__law_pull l_mu l_bulge l_place) (hg : Gl X "_law_pull" := by rfl) (he : starEach [e1, e2, e3] X.env = (false, eval e1 X.env) :: starEach [e2, e3] X.env := by rfl) (hpl : (backTo pos (starEach [e2, e3] X.env)).any (·.1) = false := by rfl) : PX X (.Call (.Name "_law_pull" p) [e1, e2, e3] [] pos) Γ o (is X.K (v__law_pull l_mu l_bulge l_place)) := x_callF (ok__law_pull T) hr (l_mu, l_bulge, l_place) hp h rfl hg (by decide) he hpl
end Or
set_option maxHeartbeats 400000
/-! Bounds of what is drawn. -/
namespace Or
open PySem L2 L3
def bnd (B x : Int) : Prop := -B ≤ x ∧ x ≤ B
def bndP (B : Int) (p : Pt) : Prop := bnd B p.a ∧ bnd B p.b ∧ bnd B p.c
theorem bnd.add {A B x y : Int} (h : bnd A x) (g : bnd B y) : bnd (A + B) (x + y) := by unfold bnd at *; omega
theorem bnd.mono {A B x : Int} (h : bnd A x) (g : A ≤ B) : bnd B x := by unfold bnd at *; omega
theorem bndP.mono {A B : Int} {x : Pt} (h : bndP A x) (g : A ≤ B) : bndP B x := ⟨h.1.mono g, h.2.1.mono g, h.2.2.mono g⟩
theorem bndP.add {A B : Int} {x y : Pt} (h : bndP A x) (g : bndP B y) : bndP (A + B) (addP x y) := ⟨h.1.add g.1, h.2.1.add g.2.1, h.2.2.add g.2.2⟩
theorem bnd.sm {B x : Int} (n : Nat) (h : bnd B x) (hB : B.natAbs < 2 ^ n) : Sm n x := by
  unfold bnd at h
  unfold Sm
  omega
/-- a quotient by at least what bounds the numerator -/
theorem ediv_bnd {x d M : Int} (hd : 0 < d) (h1 : -(M * d) ≤ x) (h2 : x ≤ M * d) : bnd M (x / d) := by
  constructor
  · rw [Int.le_ediv_iff_mul_le hd]
    rw [Int.neg_mul]
    exact h1
  · have : x / d ≤ M * d / d := Int.ediv_le_ediv hd h2
    rw [Int.mul_ediv_cancel _ (by omega)] at this
    exact this
theorem abs_le_sq (x : Int) : x ≤ x * x ∧ -x ≤ x * x := by
  by_cases h : 0 < x
  · have h1 : 1 * x ≤ x * x := Int.mul_le_mul_of_nonneg_right (by omega) (by omega)
    omega
  · by_cases h2 : x < 0
    · have h1 : 1 * (-x) ≤ -x * -x := Int.mul_le_mul_of_nonneg_right (by omega) (by omega)
      rw [Int.neg_mul_neg] at h1
      omega
    · have : x = 0 := by omega
      subst this
      decide
theorem pullC_bnd {mu bulge z s r c k : Int} (hm : 0 ≤ mu) (hb : 0 ≤ bulge) (hs : 1 ≤ s) (hr : 1 ≤ r) (hc : c * c ≤ s) (hz : z * z ≤ s) (hk0 : 0 ≤ k) (hk : k ≤ 5) : bnd (mu + 5 * bulge) (pullC mu bulge z s r c k) := by
  obtain ⟨c1, c2⟩ := abs_le_sq c
  have hsr : s ≤ s * r := by
    have := Int.mul_le_mul_of_nonneg_left hr (show 0 ≤ s by omega)
    rwa [Int.mul_one] at this
  have p1 : 0 < s * r := Int.mul_pos (by omega) (by omega)
  have a1 : bnd mu (-mu * c / (s * r)) := by
    refine ediv_bnd p1 ?_ ?_
    · have : mu * c ≤ mu * (s * r) := Int.mul_le_mul_of_nonneg_left (by omega) hm
      rw [Int.neg_mul]
      omega
    · have : mu * -c ≤ mu * (s * r) := Int.mul_le_mul_of_nonneg_left (by omega) hm
      rw [Int.mul_neg] at this
      rw [Int.neg_mul]
      omega
  -- the second quotient
  have hzz : 0 ≤ z * z := sq_nn z
  have hks0 : 0 ≤ k * s := Int.mul_nonneg hk0 (by omega)
  have hks : k * s ≤ 5 * s := Int.mul_le_mul_of_nonneg_right hk (by omega)
  have e5 : 5 * z * z = 5 * (z * z) := by rw [Int.mul_assoc]
  have w1 : 5 * z * z - k * s ≤ 5 * s := by rw [e5]; omega
  have w2 : -(5 * s) ≤ 5 * z * z - k * s := by rw [e5]; omega
  generalize hw : 5 * z * z - k * s = w at w1 w2
  have p2 : 0 < s * s * s * r := Int.mul_pos (Int.mul_pos (Int.mul_pos (by omega) (by omega)) (by omega)) (by omega)
  have cw : c * w ≤ 5 * s * s ∧ -(5 * s * s) ≤ c * w := by
    have hc1 : c ≤ s := by omega
    have hc2 : -s ≤ c := by omega
    have q : ∀ (a b A B : Int), 0 ≤ A → 0 ≤ B → a ≤ A → -A ≤ a → b ≤ B → -B ≤ b → a * b ≤ A * B ∧ -(A * B) ≤ a * b := by
      intro a b A B hA hB h1 h2 h3 h4
      have g1 : 0 ≤ (A - a) * (B + b) := Int.mul_nonneg (by omega) (by omega)
      have g2 : 0 ≤ (A + a) * (B - b) := Int.mul_nonneg (by omega) (by omega)
      have g3 : 0 ≤ (A - a) * (B - b) := Int.mul_nonneg (by omega) (by omega)
      have g4 : 0 ≤ (A + a) * (B + b) := Int.mul_nonneg (by omega) (by omega)
      simp only [Int.sub_mul, Int.add_mul, Int.mul_sub, Int.mul_add] at g1 g2 g3 g4
      omega
    have := q c w s (5 * s) (by omega) (by omega) hc1 hc2 w1 w2
    have e : s * (5 * s) = 5 * s * s := by rw [Int.mul_comm]
    rw [e] at this
    exact this
  have hss : s * s ≤ s * s * s * r := by
    have h1 : s * s * 1 ≤ s * s * (s * r) := Int.mul_le_mul_of_nonneg_left (by omega) (Int.mul_nonneg (by omega) (by omega))
    rw [Int.mul_one, ← Int.mul_assoc] at h1
    exact h1
  have a2 : bnd (5 * bulge) (bulge * c * w / (s * s * s * r)) := by
    have e : bulge * c * w = bulge * (c * w) := Int.mul_assoc ..
    have e6 : 5 * s * s = 5 * (s * s) := Int.mul_assoc ..
    rw [e6] at cw
    have u1 : bulge * (c * w) ≤ bulge * (5 * (s * s * s * r)) := Int.mul_le_mul_of_nonneg_left (by omega) hb
    have u2 : bulge * -(c * w) ≤ bulge * (5 * (s * s * s * r)) := Int.mul_le_mul_of_nonneg_left (by omega) hb
    rw [Int.mul_neg] at u2
    have e7 : bulge * (5 * (s * s * s * r)) = 5 * bulge * (s * s * s * r) := by rw [← Int.mul_assoc, Int.mul_comm bulge 5]
    rw [e7] at u1 u2
    refine ediv_bnd p2 ?_ ?_
    · rw [e]; omega
    · rw [e]; omega
  unfold pullC
  rw [hw]
  exact a1.add a2
theorem lpull_bnd {mu bulge : Int} {p : Pt} (hm : 0 ≤ mu) (hb : 0 ≤ bulge) (hp : zeroP p = false) : bndP (mu + 5 * bulge) (lpull mu bulge p) := by
  have hs := sqOf_pos hp
  have hr := isq_pos hs
  have h1 := sq_nn p.a
  have h2 := sq_nn p.b
  have h3 := sq_nn p.c
  have e : sqOf p = p.a * p.a + p.b * p.b + p.c * p.c := rfl
  exact ⟨pullC_bnd hm hb hs hr (by omega) (by omega) (by decide) (by decide), pullC_bnd hm hb hs hr (by omega) (by omega) (by decide) (by decide), pullC_bnd hm hb hs hr (by omega) (by omega) (by decide) (by decide)⟩
theorem mem_iv {a : Iv} (h : IV a) (r : Int) : a.a ≤ a.a + r % wof a ∧ a.a + r % wof a ≤ a.b := by
  have hw : 0 < wof a := by unfold wof IV at *; omega
  have h1 := Int.emod_nonneg r (show wof a ≠ 0 by omega)
  have h2 := Int.emod_lt_of_pos r hw
  unfold wof at *
  omega
theorem member_has {x : Box} (h : BV x) (r : Int) : Box.has x (member x r) = true := by
  obtain ⟨a1, a2⟩ := mem_iv h.1 r
  obtain ⟨b1, b2⟩ := mem_iv h.2.1 (r / wof x.a)
  obtain ⟨c1, c2⟩ := mem_iv h.2.2 (r / wof x.a / wof x.b)
  unfold Box.has Iv.has member
  dsimp only
  rw [decide_eq_true a1, decide_eq_true a2, decide_eq_true b1, decide_eq_true b2, decide_eq_true c1, decide_eq_true c2]
  rfl
theorem member_bnd {M : Int} {x : Box} (h : boxIn M x) (r : Int) : bndP M (member x r) := by
  obtain ⟨a1, a2⟩ := mem_iv h.1.2.1 r
  obtain ⟨b1, b2⟩ := mem_iv h.2.1.2.1 (r / wof x.a)
  obtain ⟨c1, c2⟩ := mem_iv h.2.2.2.1 (r / wof x.a / wof x.b)
  have h1 := h.1
  have h2 := h.2.1
  have h3 := h.2.2
  unfold ivIn at h1 h2 h3
  unfold bndP bnd member
  dsimp only
  omega
theorem spr_bnd {w r sp : Int} (hw : w = 2 * sp + 1) (h : 0 ≤ sp) (i : Nat) : bnd sp (sprAt w r sp i) := by
  have h1 := Int.emod_nonneg (sprRow w r i) (show w ≠ 0 by omega)
  have h2 := Int.emod_lt_of_pos (sprRow w r i) (show 0 < w by omega)
  unfold bnd sprAt
  omega
theorem spread3_bnd {r sp : Int} (h : 0 ≤ sp) : bndP sp (l3 (spread r 3 sp)) := ⟨spr_bnd rfl h 0, spr_bnd rfl h 1, spr_bnd rfl h 2⟩
/-- a mover within bounds -/
structure MvOk (m : Mv) : Prop where
  mu0 : 1 ≤ m.mu
  mu1 : m.mu ≤ 10 ^ 9
  b0 : 0 ≤ m.bulge
  b1 : m.bulge ≤ 10 ^ 12
  d0 : 0 ≤ m.drift
  d1 : m.drift ≤ 10
  bu : ∀ u ∈ m.burns, boxIn 40 u.c
  s0 : 0 ≤ m.start
  s1 : m.start ≤ 100
/-- what a step adds to the speed, at the most -/
def CC : Int := 5001000000060
def VB (k : Nat) : Int := 80 + (k : Int) * 5001000000060
def PB (k : Nat) : Int := 6000 + (k : Int) * 55011000000800
theorem nothing_in (M : Int) (h : 0 ≤ M) : boxIn M nothing := by
  unfold boxIn ivIn nothing
  dsimp only
  omega
theorem push_in {m : Mv} (h : MvOk m) (t : Int) : boxIn 40 (lpush m.burns t) := by
  unfold lpush
  split
  · rename_i u e
    exact h.bu u (List.mem_of_find?_eq_some e)
  · exact nothing_in 40 (by decide)
theorem fast_bnd {m : Mv} (h : MvOk m) {k : Nat} {x : PV} (hz : zeroP x.a = false) (hv : bndP (VB k) x.b) : bndP (VB (k + 1)) (fastOf m k x) := by
  have h1 := lpull_bnd (mu := m.mu) (bulge := m.bulge) (by have := h.mu0; omega) h.b0 hz
  have h2 := member_bnd (push_in h (m.start + (k : Int))) (lrow m.s (8 + (k : Int)))
  have h3 := spread3_bnd (r := lrow m.s (8 + (k : Int)) / 10 ^ 9) h.d0
  have h4 := ((hv.add h1).add h2).add h3
  refine h4.mono ?_
  have m1 := h.mu1
  have b1 := h.b1
  have d1 := h.d1
  unfold VB
  omega
theorem place_bnd {m : Mv} {k : Nat} {x : PV} (hk : k < 11) (hp : bndP (PB k) x.a) (hf : bndP (VB (k + 1)) (fastOf m k x)) : bndP (PB (k + 1)) (stepM m k x).a := by
  refine (hp.add hf).mono ?_
  unfold PB VB
  omega
/-- a point of a motion within bounds -/
structure XOk (k : Nat) (x : PV) : Prop where
  p : bndP (PB k) x.a
  v : bndP (VB k) x.b
theorem XOk.step {m : Mv} (h : MvOk m) {k : Nat} {x : PV} (hk : k < 11) (hz : zeroP x.a = false) (g : XOk k x) : XOk (k + 1) (stepM m k x) := ⟨place_bnd hk g.p (fast_bnd h hz g.v), fast_bnd h hz g.v⟩
theorem XOk.sm {k : Nat} {x : PV} (hk : k ≤ 11) (g : XOk k x) : Sm 100 x.a.a ∧ Sm 100 x.a.b ∧ Sm 100 x.a.c := by
  have h := g.p.mono (show PB k ≤ 10 ^ 15 by unfold PB; omega)
  exact ⟨h.1.sm 100 (by decide), h.2.1.sm 100 (by decide), h.2.2.sm 100 (by decide)⟩
theorem lrow_nn (s : List Int) (k : Int) (hk : 0 ≤ k) : 0 ≤ lrow s k := by
  unfold lrow rowB
  split
  · have h1 : 0 ≤ (rowC (rowA (cell s k)) k * 16807 + k * 40014 + 11) % 2147483399 := Int.emod_nonneg _ (by decide)
    have h2 : 0 ≤ rowC (rowA (cell s k)) k * rowC (rowA (cell s k)) k % 2147482951 := Int.emod_nonneg _ (by decide)
    omega
  · omega
theorem eqE_zero (p : Pt) : eqE p ⟨0, 0, 0⟩ = zeroP p := by
  unfold eqE zeroP
  show PyData.eqv (.tuple [.int p.a, .int p.b, .int p.c]) (.tuple [.int 0, .int 0, .int 0]) = _
  simp only [PyData.eqv, PyData.eqvAll, Bool.and_true]
  congr 1
end Or
set_option maxHeartbeats 400000
namespace Or
open PySem PySem.Spec PyProof.Rows L2 L3
local macro_rules | `(tactic| walk_at "gle") => `(tactic| (repeat (first | exact GLe.nil | refine GLe.keep ?_ | refine GLe.drop ?_)))
theorem sx_newN {X : Cx} {Γ : Gm} {x : Str} {es : List Expr} {pos pos' : Pos} {Bk Ct : Asn} {R : Ret} {α : Type} [Rep α] {xs : List α} (i : Nat) {pl : Pos} (nd : X.N.Nodup) (h : PAX X es Γ none (xs.map (is X.K))) (hn : xs.length ≤ 1000 := by decide) (hi : X.N[i]? = some x := by rfl) (hx : Loc X.env.scope x := by first | exact Or.inl rfl | exact Or.inr rfl)
    (hl : i < Γ.length := by exact Nat.lt_of_succ_le (Nat.le_of_ble_eq_true rfl)) (hs : swapsWith (.List es pl) (some (.Name x pos')) pos.line X.env = pure false := by rfl) (hf : X.fn x = true ∨ X.env.scope.names.lookup x = some .local := by first | exact .inl rfl | exact .inr rfl) :
    SX X (.Assign [.Name x pos'] (.List es pl) pos) (as Γ none) (as (Γ.set i none) (some (ownL X.K i xs))) Bk Ct R := by
  obtain ⟨t, pp, f⟩ := h
  refine ⟨_, ps_set (i := i) nd hi hx (pe_lst pp) hs hf, fun B0 H0 σ H D ⟨B, b, g, ow⟩ d => f σ B H _ g fun vs B1 H1 s1 rv => ?_⟩
  have g1 := g.stp s1
  have b1 := b.stp s1
  refine ⟨by rw [rv.length, List.length_map]; exact small_le hn, fun p hp => d.nx _ _ ⟨B1, ?_, ⟨?_, ?_, ?_, ?_⟩, ?_⟩⟩
  · exact ⟨b1.bb, b1.hh.trans fun q u e => by rw [upd_ne (ne_of_none e hp)]; exact e, b1.fr⟩
  · intro q u e
    have e2 := g1.sub q u e
    rw [upd_ne (ne_of_none e2 hp)]; exact e2
  · rw [List.length_set, List.length_set]; exact g1.len
  · intro j Q e
    by_cases q : i = j
    · subst q
      rw [List.getElem?_set_self hl] at e
      cases e
    · rw [List.getElem?_set_ne q] at e ⊢
      exact g1.val j Q e
  · intro w e
    cases e
    exact ⟨p, .lst vs, List.getElem?_set_self (by rw [g1.len]; exact hl), g1.sub.free hp, upd_same, vs, rfl, rv⟩
  · intro w l e q
    cases e
    have q2 : some (some (V.ref p)) = some (some (V.ref l)) := (List.getElem?_set_self (by rw [g1.len]; exact hl)).symm.trans q
    cases q2
    exact b1.hh.free hp
theorem pick_all {α : Type} [Rep α] {p : α → Prop} {l : List α} {z : Int} {d : α} (h : ∀ x ∈ l, p x) (h0 : 0 ≤ z) (h1 : z < l.length) : p (pick l z d) := h _ (List.mem_of_getElem? (pick_get d h0 h1))
theorem dv {x y : Int} (h : 0 < y) (h2 : y < 2 ^ 60) : CDivW x y := Sm.divW (n := 60) (sm_range 60 (by omega) h2) h
theorem md0 (x : Int) {y : Int} (h : 0 < y) : 0 ≤ x % y := Int.emod_nonneg _ (by omega)
theorem md1 (x : Int) {y : Int} (h : 0 < y) : x % y < y := Int.emod_lt_of_pos _ h
set_option maxHeartbeats 1600000
theorem sc__law_world : FnScope ["_law_script", "_law_row_here", "_law_mu", "_law_bulge", "_law_drift", "_law_start", "_law_fineness", "_law_many", "_law_span", "_law_place", "_law_speed", "_law_burns", "_law_first", "_law_k", "_law_box_here"] ["_law_script"] (defScope st__law_world) := ⟨rfl, rfl, rfl, by decide +kernel, rfl, by decide +kernel, by decide +kernel⟩
abbrev v__law_world (l_script : Rdl (Int)) : Wd := lworld l_script.l
theorem ok__law_world {P : Program} {w : World} {K : Fg} {mg : Str → Option Value} {base : Heap} (T : Tx w K mg) : Fok P w K mg base 3 "_law_world" ["_law_script"] (spF (fun a : Rdl (Int) => True) (fun a : Rdl (Int) => [is K a]) fun a => is K (v__law_world a)) := by
  refine fokR T.fn__law_world T.glo__law_world (fun _ _ _ _ _ _ us hl => match us, hl with | [_], _ => rfl) sc__law_world (fun _ => rfl) fun cdv A outer s H E hr l_script hp => ?_
  have nd := sc__law_world.nd
  show SXs _ _ (as (G0 [is K l_script] _) none) _ _ _ (retV (is K (v__law_world l_script)))
  have ev : v__law_world l_script = ⟨wMu (lrow l_script.l 0), wBulge (lrow l_script.l 0), wDrift (lrow l_script.l 1), lrow l_script.l 1 / 31 % 9, lrow l_script.l 1 / 279 % 3, 3 + lrow l_script.l 1 / 837 % 9, wPlace (lrow l_script.l 2), wSpeed (lrow l_script.l 3), wBurns (lrow l_script.l 1 / 31 % 9) (lrow l_script.l 6)⟩ := rfl
  refine sx_cons (sx_set 1 nd (c__law_row T (hr.mono (by decide)) (xs_cons (x_var 0 rfl) (xs_cons x_int xs_nil)) ⟨by omega, by omega⟩)) ?_
  unfold v__law_row
  generalize lrow l_script.l 0 = r0 at ev ⊢
  refine sx_cons (sx_set (P := is K (wMu r0)) 2 nd (x_pick (l := [1 + r0 / 7 % 1000, 1 + r0 / 7 % 10 ^ 7, 1 + r0 / 7 % 10 ^ 9]) 0 (PX.eq (x_lst (xs_cons (x_add x_int (x_mod (x_div (x_var 1 rfl) x_int (dv (by decide) (by decide))) x_int (by decide))) (xs_cons (x_add x_int (x_mod (x_div (x_var 1 rfl) x_int (dv (by decide) (by decide))) (x_pow x_int x_int (by unfold CPow; decide)) (by decide))) (xs_cons (x_add x_int (x_mod (x_div (x_var 1 rfl) x_int (dv (by decide) (by decide))) (x_pow x_int x_int (by unfold CPow; decide)) (by decide))) xs_nil)))) rfl) (x_mod (x_var 1 rfl) x_int (by decide)) (md0 _ (by decide)) (md1 _ (by decide)))) ?_
  refine sx_cons (sx_set (P := is K (wBulge r0)) 3 nd (x_pick (l := [0, r0 / 11 % 10 ^ 12]) 0 (PX.eq (x_lst (xs_cons x_int (xs_cons (x_mod (x_div (x_var 1 rfl) x_int (dv (by decide) (by decide))) (x_pow x_int x_int (by unfold CPow; decide)) (by decide)) xs_nil))) rfl) (x_mod (x_div (x_var 1 rfl) x_int (dv (by decide) (by decide))) x_int (by decide)) (md0 _ (by decide)) (md1 _ (by decide)))) ?_
  refine sx_cons (sx_set 1 nd (c__law_row T (hr.mono (by decide)) (xs_cons (x_var 0 rfl) (xs_cons x_int xs_nil)) ⟨by omega, by omega⟩)) ?_
  unfold v__law_row
  generalize lrow l_script.l 1 = r1 at ev ⊢
  refine sx_cons (sx_set (P := is K (wDrift r1)) 4 nd (x_pick (l := [0, 1, r1 / 5 % 6]) 0 (PX.eq (x_lst (xs_cons x_int (xs_cons x_int (xs_cons (x_mod (x_div (x_var 1 rfl) x_int (dv (by decide) (by decide))) x_int (by decide)) xs_nil)))) rfl) (x_mod (x_var 1 rfl) x_int (by decide)) (md0 _ (by decide)) (md1 _ (by decide)))) ?_
  refine sx_cons (sx_set (P := is K (r1 / 31 % 9)) 5 nd (x_mod (x_div (x_var 1 rfl) x_int (dv (by decide) (by decide))) x_int (by decide))) ?_
  refine sx_cons (sx_set (P := is K (r1 / 279 % 3)) 6 nd (x_mod (x_div (x_var 1 rfl) x_int (dv (by decide) (by decide))) x_int (by decide))) ?_
  refine sx_cons (sx_set (P := is K (3 + r1 / 837 % 9)) 7 nd (x_add x_int (x_mod (x_div (x_var 1 rfl) x_int (dv (by decide) (by decide))) x_int (by decide)))) ?_
  refine sx_weak (Γ' := [some (is K l_script), none, some (is K (wMu r0)), some (is K (wBulge r0)), some (is K (wDrift r1)), some (is K (r1 / 31 % 9)), some (is K (r1 / 279 % 3)), some (is K (3 + r1 / 837 % 9)), none, none, none, none, none, none, none]) (by walk_at "gle") ?_
  refine sx_cons (sx_set 1 nd (c__law_row T (hr.mono (by decide)) (xs_cons (x_var 0 rfl) (xs_cons x_int xs_nil)) ⟨by omega, by omega⟩)) ?_
  unfold v__law_row
  generalize lrow l_script.l 2 = r2 at ev ⊢
  refine sx_cons (sx_set (P := is K (pick [30, 300, 5000] (r2 % 3) 0)) 8 nd (x_pick (l := [30, 300, 5000]) 0 (PX.eq (x_lst (xs_cons x_int (xs_cons x_int (xs_cons x_int xs_nil)))) rfl) (x_mod (x_var 1 rfl) x_int (by decide)) (md0 _ (by decide)) (md1 _ (by decide)))) ?_
  refine sx_cons (sx_set (P := is K (wPlace r2)) 9 nd (c__law_box T (hr.mono (by decide)) (xs_cons (x_div (x_var 1 rfl) x_int (dv (by decide) (by decide))) (xs_cons (x_var 8 rfl) (xs_cons (x_pick (l := [0, 3, 40]) 0 (PX.eq (x_lst (xs_cons x_int (xs_cons x_int (xs_cons x_int xs_nil)))) rfl) (x_mod (x_div (x_var 1 rfl) x_int (dv (by decide) (by decide))) x_int (by decide)) (md0 _ (by decide)) (md1 _ (by decide))) xs_nil))) ⟨(show 0 ≤ pick [30, 300, 5000] (r2 % 3) 0 ∧ pick [30, 300, 5000] (r2 % 3) 0 ≤ 1000000 from pick_all (p := fun x : Int => 0 ≤ x ∧ x ≤ 1000000) (by intro x hx; simp at hx; omega) (md0 _ (by decide)) (md1 _ (by decide))), (show 0 ≤ pick [0, 3, 40] (r2 / 17 % 3) 0 ∧ pick [0, 3, 40] (r2 / 17 % 3) 0 ≤ 1000000 from pick_all (p := fun x : Int => 0 ≤ x ∧ x ≤ 1000000) (by intro x hx; simp at hx; omega) (md0 _ (by decide)) (md1 _ (by decide)))⟩)) ?_
  refine sx_cons (sx_set 1 nd (c__law_row T (hr.mono (by decide)) (xs_cons (x_var 0 rfl) (xs_cons x_int xs_nil)) ⟨by omega, by omega⟩)) ?_
  unfold v__law_row
  generalize lrow l_script.l 3 = r3 at ev ⊢
  refine sx_cons (sx_set (P := is K (wSpeed r3)) 10 nd (c__law_box T (hr.mono (by decide)) (xs_cons (x_div (x_var 1 rfl) x_int (dv (by decide) (by decide))) (xs_cons (x_pick (l := [5, 60]) 0 (PX.eq (x_lst (xs_cons x_int (xs_cons x_int xs_nil))) rfl) (x_mod (x_var 1 rfl) x_int (by decide)) (md0 _ (by decide)) (md1 _ (by decide))) (xs_cons (x_pick (l := [0, 2, 9]) 0 (PX.eq (x_lst (xs_cons x_int (xs_cons x_int (xs_cons x_int xs_nil)))) rfl) (x_mod (x_div (x_var 1 rfl) x_int (dv (by decide) (by decide))) x_int (by decide)) (md0 _ (by decide)) (md1 _ (by decide))) xs_nil))) ⟨(show 0 ≤ pick [5, 60] (r3 % 2) 0 ∧ pick [5, 60] (r3 % 2) 0 ≤ 1000000 from pick_all (p := fun x : Int => 0 ≤ x ∧ x ≤ 1000000) (by intro x hx; simp at hx; omega) (md0 _ (by decide)) (md1 _ (by decide))), (show 0 ≤ pick [0, 2, 9] (r3 / 13 % 3) 0 ∧ pick [0, 2, 9] (r3 / 13 % 3) 0 ≤ 1000000 from pick_all (p := fun x : Int => 0 ≤ x ∧ x ≤ 1000000) (by intro x hx; simp at hx; omega) (md0 _ (by decide)) (md1 _ (by decide)))⟩)) ?_
  refine sx_cons (sx_set 1 nd (c__law_row T (hr.mono (by decide)) (xs_cons (x_var 0 rfl) (xs_cons x_int xs_nil)) ⟨by omega, by omega⟩)) ?_
  unfold v__law_row
  generalize lrow l_script.l 6 = r6 at ev ⊢
  refine sx_weak (Γ' := [some (is K l_script), some (is K r6), some (is K (wMu r0)), some (is K (wBulge r0)), some (is K (wDrift r1)), some (is K (r1 / 31 % 9)), some (is K (r1 / 279 % 3)), some (is K (3 + r1 / 837 % 9)), none, some (is K (wPlace r2)), some (is K (wSpeed r3)), none, none, none, none]) (by walk_at "gle") ?_
  refine sx_cons (sx_new (α := BT) 11 nd) ?_
  refine sx_cons (sx_set (P := is K (r1 / 31 % 9 + r6 % 4)) 12 nd (x_add (x_var 5 rfl) (x_mod (x_var 1 rfl) x_int (by decide)))) ?_
  have hm0 := md0 (r6 / 4) (y := 3) (by decide)
  have hm1 := md1 (r6 / 4) (y := 3) (by decide)
  refine sx_forU (ι := Unit) (rngL 0 (r6 / 4 % 3).toNat) (fun k _ => [(12, some (is K (bgAt (r1 / 31 % 9 + r6 % 4) r6 k))), (14, none)]) (fun k _ => some (ownL K 11 ((List.range k).map (burnAt (r1 / 31 % 9 + r6 % 4) r6)))) (fun _ _ => True) () (i_rng1 T.free_range (xs_cons (x_mod (x_div (x_var 1 rfl) x_int (dv (by decide) (by decide))) x_int (by decide)) xs_nil) (by omega)) trivial (by walk_at "gle") rfl (fun k _ a ha _ => ?_) (fun _ _ => ?_)
  · obtain ⟨hk, rfl⟩ := rngL_get ha
    refine ⟨_, [13], g_name 13 nd, own_ninL (by decide), ?_⟩
    have ek : (0 : Int) + (k : Int) = (k : Int) := by omega
    rw [ek]
    refine sx_cons (sx_set 14 nd (c__law_box T (hr.mono (by decide)) (xs_cons (x_add (x_div (x_var 1 rfl) x_int (dv (by decide) (by decide))) (x_muls (x_var 13 rfl) x_int (small_mulr (by decide) (by decide)))) (xs_cons x_int (xs_cons (x_pick (l := [0, 4]) 0 (PX.eq (x_lst (xs_cons x_int (xs_cons x_int xs_nil))) rfl) (x_mod (x_var 13 rfl) x_int (by decide)) (md0 _ (by decide)) (md1 _ (by decide))) xs_nil))) ⟨⟨by decide, by decide⟩, (show 0 ≤ pick [0, 4] ((k : Int) % 2) 0 ∧ pick [0, 4] ((k : Int) % 2) 0 ≤ 1000000 from pick_all (p := fun x : Int => 0 ≤ x ∧ x ≤ 1000000) (by intro x hx; simp at hx; omega) (md0 _ (by decide)) (md1 _ (by decide)))⟩)) ?_
    refine sx_cons (sx_append (y := burnAt (r1 / 31 % 9 + r6 % 4) r6 k) (x_t3 (xs_cons (x_var 12 rfl) (xs_cons (x_add (x_add (x_var 12 rfl) x_int) (x_mod (x_div (x_var 1 rfl) x_int (dv (by decide) (by decide))) x_int (by decide))) (xs_cons (x_var 14 rfl) xs_nil)))) (by rw [List.length_map, List.length_range]; omega)) ?_
    refine sx_cons (sx_set 12 nd (x_add (x_add (x_add (x_var 12 rfl) x_int) (x_mod (x_div (x_var 1 rfl) x_int (dv (by decide) (by decide))) x_int (by decide))) (x_mod (x_div (x_var 1 rfl) x_int (dv (by decide) (by decide))) x_int (by decide)))) (sx_endU () trivial (by walk_at "gle") ?_)
    rw [rng_app]
    rfl
  · rw [rngL_len]
    refine sx_freeze ?_
    refine sx_last (sx_retD (PX.eq (x_t9 (xs_cons (x_var 2 rfl) (xs_cons (x_var 3 rfl) (xs_cons (x_var 4 rfl) (xs_cons (x_var 5 rfl) (xs_cons (x_var 6 rfl) (xs_cons (x_var 7 rfl) (xs_cons (x_var 9 rfl) (xs_cons (x_var 10 rfl) (xs_cons (x_var 11 rfl) xs_nil)))))))))) rfl) ev.symm)
theorem c__law_world {X : Cx} {Γ : Gm} {o : Option Own} {e1 : Expr} {p pos : Pos} {l_script : Rdl (Int)} (T : Tx X.w X.K X.mg) (hr : Room 3 X.A) (h : PAX X [e1] Γ o [is X.K l_script]) (hg : Gl X "_law_world" := by rfl) (he : starEach [e1] X.env = (false, eval e1 X.env) :: starEach [] X.env := by rfl) (hpl : (backTo pos (starEach [] X.env)).any (·.1) = false := by rfl) : PX X (.Call (.Name "_law_world" p) [e1] [] pos) Γ o (is X.K (v__law_world l_script)) := x_callF (ok__law_world T) hr (l_script) trivial h rfl hg (by decide) he hpl
set_option maxHeartbeats 400000
end Or
set_option maxHeartbeats 400000
namespace Or
open PySem PySem.Spec PyProof.Rows L2 L3
local macro_rules | `(tactic| walk_at "gle") => `(tactic| (repeat (first | exact GLe.nil | refine GLe.keep ?_ | refine GLe.drop ?_)))
def ptAt (p : Pt) : Nat → Int
  | 0 => p.a
  | 1 => p.b
  | _ => p.c
theorem pt_at (p : Pt) {i : Nat} (h : i < 3) : [p.a, p.b, p.c][i]? = some (ptAt p i) := by
  match i, h with
  | 0, _ => rfl
  | 1, _ => rfl
  | 2, _ => rfl
/-- what holds in the walk of a motion -/
structure GI (m : Mv) (M : List PV) (n k : Nat) (x : List PV × PV) : Prop where
  go : motGo m (n - k) k x.1 x.2 = M
  len : x.1.length = k + 1
  ok : XOk k x.2
theorem GI.stop {m : Mv} {M : List PV} {n k : Nat} {x : List PV × PV} (h : GI m M n k x) (hk : k < n) (hz : zeroP x.2.a = true) : x.1 = M := by
  have g := h.go
  have e1 : n - k = (n - (k + 1)) + 1 := by omega
  rw [e1] at g
  unfold motGo at g
  rw [if_pos hz] at g
  exact g
theorem GI.step {m : Mv} {M : List PV} {n k : Nat} {x : List PV × PV} (h : GI m M n k x) (hm : MvOk m) (hn : n ≤ 11) (hk : k < n) (hz : zeroP x.2.a = false) : GI m M n (k + 1) (x.1 ++ [stepM m k x.2], stepM m k x.2) := by
  have g := h.go
  have e1 : n - k = (n - (k + 1)) + 1 := by omega
  rw [e1] at g
  unfold motGo at g
  rw [if_neg (by rw [hz]; exact Bool.false_ne_true)] at g
  exact ⟨g, by rw [List.length_append, h.len]; rfl, h.ok.step hm (by omega) hz⟩
theorem GI.done {m : Mv} {M : List PV} {n : Nat} {x : List PV × PV} (h : GI m M n n x) : x.1 = M := by
  have g := h.go
  rw [Nat.sub_self] at g
  exact g
set_option maxHeartbeats 1200000
theorem sc__law_motion : FnScope ["_law_script", "_law_mu", "_law_bulge", "_law_place", "_law_speed", "_law_drift", "_law_burns", "_law_start", "_law_many", "_law_at", "_law_fast", "_law_motion_here", "_law_k", "_law_row_here", "_law_box_here", "_law_push_here", "_law_more", "_law_pulls", "_law_j"] ["_law_script", "_law_mu", "_law_bulge", "_law_place", "_law_speed", "_law_drift", "_law_burns", "_law_start", "_law_many"] (defScope st__law_motion) := ⟨rfl, rfl, rfl, by decide +kernel, rfl, by decide +kernel, by decide +kernel⟩
abbrev v__law_motion (l_script : Rdl (Int)) (l_mu : Int) (l_bulge : Int) (l_place : Box) (l_speed : Box) (l_drift : Int) (l_burns : List (BT)) (l_start : Int) (l_many : Int) : List (PV) := motion ⟨l_script.l, l_mu, l_bulge, l_drift, l_burns, l_start⟩ l_place l_speed l_many
def p__law_motion (l_script : Rdl (Int)) (l_mu : Int) (l_bulge : Int) (l_place : Box) (l_speed : Box) (l_drift : Int) (l_burns : List (BT)) (l_start : Int) (l_many : Int) : Prop := MvOk ⟨l_script.l, l_mu, l_bulge, l_drift, l_burns, l_start⟩ ∧ (boxIn 6000 l_place ∧ boxIn 80 l_speed) ∧ (0 ≤ l_many ∧ l_many ≤ 11)
theorem ok__law_motion {P : Program} {w : World} {K : Fg} {mg : Str → Option Value} {base : Heap} (T : Tx w K mg) : Fok P w K mg base 3 "_law_motion" ["_law_script", "_law_mu", "_law_bulge", "_law_place", "_law_speed", "_law_drift", "_law_burns", "_law_start", "_law_many"] (spF (fun a : Rdl (Int) × Int × Int × Box × Box × Int × List (BT) × Int × Int => p__law_motion a.1 a.2.1 a.2.2.1 a.2.2.2.1 a.2.2.2.2.1 a.2.2.2.2.2.1 a.2.2.2.2.2.2.1 a.2.2.2.2.2.2.2.1 a.2.2.2.2.2.2.2.2) (fun a : Rdl (Int) × Int × Int × Box × Box × Int × List (BT) × Int × Int => [is K a.1, is K a.2.1, is K a.2.2.1, is K a.2.2.2.1, is K a.2.2.2.2.1, is K a.2.2.2.2.2.1, is K a.2.2.2.2.2.2.1, is K a.2.2.2.2.2.2.2.1, is K a.2.2.2.2.2.2.2.2]) fun a => is K (v__law_motion a.1 a.2.1 a.2.2.1 a.2.2.2.1 a.2.2.2.2.1 a.2.2.2.2.2.1 a.2.2.2.2.2.2.1 a.2.2.2.2.2.2.2.1 a.2.2.2.2.2.2.2.2)) := by
  refine fokR T.fn__law_motion T.glo__law_motion (fun _ _ _ _ _ _ us hl => match us, hl with | [_, _, _, _, _, _, _, _, _], _ => rfl) sc__law_motion (fun _ => rfl) fun cdv A outer s H E hr a hp => ?_
  obtain ⟨l_script, l_mu, l_bulge, l_place, l_speed, l_drift, l_burns, l_start, l_many⟩ := a
  have nd := sc__law_motion.nd
  have hp : p__law_motion l_script l_mu l_bulge l_place l_speed l_drift l_burns l_start l_many := hp
  show SXs _ _ (as (G0 [is K l_script, is K l_mu, is K l_bulge, is K l_place, is K l_speed, is K l_drift, is K l_burns, is K l_start, is K l_many] _) none) _ _ _ (retV (is K (v__law_motion l_script l_mu l_bulge l_place l_speed l_drift l_burns l_start l_many)))
  obtain ⟨hm, ⟨hpl, hsp⟩, ⟨n0, n1⟩⟩ := hp
  have hmu0 := hm.mu0
  have hmu1 := hm.mu1
  have hb0 := hm.b0
  have hb1 := hm.b1
  have hd0 := hm.d0
  have hd1 := hm.d1
  dsimp only at hmu0 hmu1 hb0 hb1 hd0 hd1
  have smu : Sm 100 l_mu := (show bnd (10 ^ 9) l_mu from ⟨by omega, hmu1⟩).sm 100 (by decide)
  have sbu : Sm 100 l_bulge := (show bnd (10 ^ 12) l_bulge from ⟨by omega, hb1⟩).sm 100 (by decide)
  refine sx_cons (sx_set 9 nd (c__law_member T (hr.mono (by decide)) (xs_cons (x_var 3 rfl) (xs_cons (c__law_row T (hr.mono (by decide)) (xs_cons (x_var 0 rfl) (xs_cons x_int xs_nil)) ⟨by omega, by omega⟩) xs_nil)) ⟨box_of hpl, bb_of hpl (by decide)⟩)) ?_
  refine sx_cons (sx_set 10 nd (c__law_member T (hr.mono (by decide)) (xs_cons (x_var 4 rfl) (xs_cons (c__law_row T (hr.mono (by decide)) (xs_cons (x_var 0 rfl) (xs_cons x_int xs_nil)) ⟨by omega, by omega⟩) xs_nil)) ⟨box_of hsp, bb_of hsp (by decide)⟩)) ?_
  refine sx_weak (Γ' := [some (is K l_script), some (is K l_mu), some (is K l_bulge), some (is K l_place), some (is K l_speed), some (is K l_drift), some (is K l_burns), some (is K l_start), some (is K l_many), some (is K (member l_place (lrow l_script.l 4))), some (is K (member l_speed (lrow l_script.l 5))), none, none, none, none, none, none, none, none]) (by walk_at "gle") ?_
  refine sx_cons (sx_newN (α := PV) (xs := [mot0 l_script.l l_place l_speed]) 11 nd (xs_cons (x_t2 (xs_cons (x_var 9 rfl) (xs_cons (x_var 10 rfl) xs_nil))) xs_nil) (by simp)) ?_
  show SXs _ _ (as [some (is K l_script), some (is K l_mu), some (is K l_bulge), some (is K l_place), some (is K l_speed), some (is K l_drift), some (is K l_burns), some (is K l_start), some (is K l_many), some (is K (member l_place (lrow l_script.l 4))), some (is K (member l_speed (lrow l_script.l 5))), none, none, none, none, none, none, none, none] (some (ownL K 11 [mot0 l_script.l l_place l_speed]))) _ _ _ _
  have hn : l_many.toNat ≤ 11 := by omega
  obtain ⟨M, hM⟩ : ∃ M, v__law_motion l_script l_mu l_bulge l_place l_speed l_drift l_burns l_start l_many = M := ⟨_, rfl⟩
  rw [hM]
  refine sx_forUB (ι := List PV × PV) (as [some (is K l_script), some (is K l_mu), some (is K l_bulge), some (is K l_place), some (is K l_speed), some (is K l_drift), some (is K l_burns), some (is K l_start), some (is K l_many), none, none, none, none, none, none, none, none, none, none] (some (ownL K 11 M))) (rngL 0 l_many.toNat) (fun _ x => [(9, some (is K x.2.a)), (10, some (is K x.2.b)), (12, none), (13, none), (14, none), (15, none), (16, none), (17, none)]) (fun _ x => some (ownL K 11 x.1)) (fun k x => GI (⟨l_script.l, l_mu, l_bulge, l_drift, l_burns, l_start⟩ : Mv) M l_many.toNat k x) ([mot0 l_script.l l_place l_speed], mot0 l_script.l l_place l_speed) (i_rng1 T.free_range (xs_cons (x_var 8 rfl) xs_nil) (by omega)) ⟨hM, rfl, ⟨(member_bnd hpl _).mono (by decide), (member_bnd hsp _).mono (by decide)⟩⟩ (by walk_at "gle") rfl (fun k x a ha hx => ?_) (fun x hx => ?_) ?_
  · obtain ⟨hk, rfl⟩ := rngL_get ha
    refine ⟨_, [12], g_name 12 nd, own_ninL (by decide), ?_⟩
    have ek : (0 : Int) + (k : Int) = (k : Int) := by omega
    obtain ⟨ms, x⟩ := x
    show SXs _ _ (as [some (is K l_script), some (is K l_mu), some (is K l_bulge), some (is K l_place), some (is K l_speed), some (is K l_drift), some (is K l_burns), some (is K l_start), some (is K l_many), some (is K x.a), some (is K x.b), none, some (is K ((0 : Int) + (k : Int))), none, none, none, none, none, none] (some (ownL K 11 ms))) _ _ _ _
    rw [ek]
    have hlen : ms.length = k + 1 := hx.len
    have hsm := hx.ok.sm (by omega)
    have stop := hx.stop hk
    have step := hx.step hm hn hk
    dsimp only at stop step hsm ⊢
    refine sx_ifx (t_eqE (d := (⟨0, 0, 0⟩ : Pt)) (hu_of hr) (pt_ok _) (pt_ok _) (x_var 9 rfl) (x_t3 (xs_cons x_int (xs_cons x_int (xs_cons x_int xs_nil))))) (fun h => ?_) (fun h => ?_)
    · rw [eqE_zero] at h
      rw [stop h]
      exact sx_pre (as_le (by walk_at "gle")) (sx_last sx_break)
    · rw [eqE_zero] at h
      have step := step h
      refine sx_cons (sx_set (P := is K (lrow l_script.l (8 + (k : Int)))) 13 nd (c__law_row T (hr.mono (by decide)) (xs_cons (x_var 0 rfl) (xs_cons (x_add x_int (x_var 12 rfl)) xs_nil)) ⟨by omega, by omega⟩)) ?_
      refine sx_cons (sx_set (P := is K (lpush l_burns (l_start + (k : Int)))) 14 nd (c__law_push T (hr.mono (by decide)) (xs_cons (x_var 6 rfl) (xs_cons (x_add (x_var 7 rfl) (x_var 12 rfl)) xs_nil)))) ?_
      have hpi := push_in hm (l_start + (k : Int))
      refine sx_cons (sx_set (P := is K (member (lpush l_burns (l_start + (k : Int))) (lrow l_script.l (8 + (k : Int))))) 15 nd (c__law_member T (hr.mono (by decide)) (xs_cons (x_var 14 rfl) (xs_cons (x_var 13 rfl) xs_nil)) ⟨box_of hpi, bb_of hpi (by decide)⟩)) ?_
      refine sx_cons (sx_set (P := is K (spread (lrow l_script.l (8 + (k : Int)) / 10 ^ 9) 3 l_drift)) 16 nd (c__law_spread T (hr.mono (by decide)) (xs_cons (x_div (x_var 13 rfl) (x_pow x_int x_int (by unfold CPow; decide)) (dv (by decide) (by decide))) (xs_cons x_int (xs_cons (x_var 5 rfl) xs_nil))) ⟨⟨by decide, by decide⟩, ⟨hd0, by omega⟩⟩)) ?_
      refine sx_cons (sx_set (P := is K (lpull l_mu l_bulge x.a)) 17 nd (c__law_pull T (hr.mono (by decide)) (xs_cons (x_var 1 rfl) (xs_cons (x_var 2 rfl) (xs_cons (x_var 9 rfl) xs_nil))) ⟨⟨smu, sbu⟩, hsm, h⟩)) ?_
      have ef : fastOf (⟨l_script.l, l_mu, l_bulge, l_drift, l_burns, l_start⟩ : Mv) k x = addP (addP (addP x.b (lpull l_mu l_bulge x.a)) (member (lpush l_burns (l_start + (k : Int))) (lrow l_script.l (8 + (k : Int))))) (l3 (spread (lrow l_script.l (8 + (k : Int)) / 10 ^ 9) 3 l_drift)) := rfl
      have es : stepM (⟨l_script.l, l_mu, l_bulge, l_drift, l_burns, l_start⟩ : Mv) k x = ⟨addP x.a (fastOf (⟨l_script.l, l_mu, l_bulge, l_drift, l_burns, l_start⟩ : Mv) k x), fastOf (⟨l_script.l, l_mu, l_bulge, l_drift, l_burns, l_start⟩ : Mv) k x⟩ := rfl
      have sg := fun {i : Nat} (hi : i < 3) => spread_get (r := lrow l_script.l (8 + (k : Int)) / 10 ^ 9) (sp := l_drift) hi
      have sl := spread_len (r := lrow l_script.l (8 + (k : Int)) / 10 ^ 9) (n := 3) (sp := l_drift)
      have el : l3 (spread (lrow l_script.l (8 + (k : Int)) / 10 ^ 9) 3 l_drift) = ⟨sprAt (2 * l_drift + 1) (lrow l_script.l (8 + (k : Int)) / 10 ^ 9) l_drift 0, sprAt (2 * l_drift + 1) (lrow l_script.l (8 + (k : Int)) / 10 ^ 9) l_drift 1, sprAt (2 * l_drift + 1) (lrow l_script.l (8 + (k : Int)) / 10 ^ 9) l_drift 2⟩ := rfl
      rw [el] at ef
      generalize hspr : sprAt (2 * l_drift + 1) (lrow l_script.l (8 + (k : Int)) / 10 ^ 9) l_drift = spr at ef sg
      clear el
      generalize spread (lrow l_script.l (8 + (k : Int)) / 10 ^ 9) 3 l_drift = more at sg sl ⊢
      generalize lpull l_mu l_bulge x.a = pulls at ef ⊢
      generalize member (lpush l_burns (l_start + (k : Int))) (lrow l_script.l (8 + (k : Int))) = push at ef ⊢
      generalize fastOf (⟨l_script.l, l_mu, l_bulge, l_drift, l_burns, l_start⟩ : Mv) k x = fast at ef es
      generalize stepM (⟨l_script.l, l_mu, l_bulge, l_drift, l_burns, l_start⟩ : Mv) k x = nx at step es
      refine sx_cons (sx_set (P := is K fast) 10 nd (PX.eq (x_tupL T.free_tuple (xs_cons (x_lc [("_law_j", 18)] (fun _ => true) (fun j : Int => ptAt x.b j.toNat + ptAt pulls j.toNat + ptAt push j.toNat + spr j.toNat) nd (i_rng1 T.free_range (xs_cons x_int xs_nil) (by decide)) (by decide) (own_ninL (by decide)) (blkOk_by (own := [("_law_j", 18)]) (N := ["_law_script", "_law_mu", "_law_bulge", "_law_place", "_law_speed", "_law_drift", "_law_burns", "_law_start", "_law_many", "_law_at", "_law_fast", "_law_motion_here", "_law_k", "_law_row_here", "_law_box_here", "_law_push_here", "_law_more", "_law_pulls", "_law_j"]) (sc := defScope st__law_motion) (by decide +kernel)) (fun a ha => ?_)) xs_nil)) ?_)) ?_
      · obtain ⟨i, hi, rfl⟩ := rng_mem ha
        have e : ((0 : Int) + (i : Int)).toNat = i := by omega
        have hix : ixN more.length ((0 : Int) + (i : Int)) = some i := by rw [sl, show (0 : Int) + (i : Int) = (i : Int) by omega]; exact ixN_nat hi
        refine ⟨_, [18], by decide, fun s H C cl fp => ⟨g_name 18 nd, ts_nil, fun _ => ?_⟩⟩
        rw [e]
        exact x_add (x_add (x_add (x3v (i := i) (x_var 10 rfl) (x_var 18 rfl) (by omega) (pt_at _ hi)) (x3v (i := i) (x_var 17 rfl) (x_var 18 rfl) (by omega) (pt_at _ hi))) (x3v (i := i) (x_var 15 rfl) (x_var 18 rfl) (by omega) (pt_at _ hi))) (xLv (x_var 16 rfl) (x_var 18 rfl) hix (sg hi))
      · rw [ef]
        rfl
      refine sx_weak (Γ' := [some (is K l_script), some (is K l_mu), some (is K l_bulge), some (is K l_place), some (is K l_speed), some (is K l_drift), some (is K l_burns), some (is K l_start), some (is K l_many), some (is K x.a), some (is K fast), none, some (is K (k : Int)), none, none, none, none, none, none]) (by walk_at "gle") ?_
      refine sx_cons (sx_set (P := is K (addP x.a fast)) 9 nd (PX.eq (x_tupL T.free_tuple (xs_cons (x_lc [("_law_j", 18)] (fun _ => true) (fun j : Int => ptAt x.a j.toNat + ptAt fast j.toNat) nd (i_rng1 T.free_range (xs_cons x_int xs_nil) (by decide)) (by decide) (own_ninL (by decide)) (blkOk_by (own := [("_law_j", 18)]) (N := ["_law_script", "_law_mu", "_law_bulge", "_law_place", "_law_speed", "_law_drift", "_law_burns", "_law_start", "_law_many", "_law_at", "_law_fast", "_law_motion_here", "_law_k", "_law_row_here", "_law_box_here", "_law_push_here", "_law_more", "_law_pulls", "_law_j"]) (sc := defScope st__law_motion) (by decide +kernel)) (fun a ha => ?_)) xs_nil)) ?_)) ?_
      · obtain ⟨i, hi, rfl⟩ := rng_mem ha
        have e : ((0 : Int) + (i : Int)).toNat = i := by omega
        refine ⟨_, [18], by decide, fun s H C cl fp => ⟨g_name 18 nd, ts_nil, fun _ => ?_⟩⟩
        rw [e]
        exact x_add (x3v (i := i) (x_var 9 rfl) (x_var 18 rfl) (by omega) (pt_at _ hi)) (x3v (i := i) (x_var 10 rfl) (x_var 18 rfl) (by omega) (pt_at _ hi))
      · rfl
      subst es
      exact sx_cons (sx_append (y := (⟨addP x.a fast, fast⟩ : PV)) (x_t2 (xs_cons (x_var 9 rfl) (xs_cons (x_var 10 rfl) xs_nil))) (show ms.length ≤ 1000 by omega)) (sx_endU _ step (by walk_at "gle") rfl)
  · rw [rngL_len] at hx
    rw [hx.done]
    refine sx_freeze ?_
    exact sx_last (sx_retD (x_var 11 rfl) rfl)
  · refine sx_freeze ?_
    exact sx_last (sx_retD (x_var 11 rfl) rfl)
theorem c__law_motion {X : Cx} {Γ : Gm} {o : Option Own} {e1 e2 e3 e4 e5 e6 e7 e8 e9 : Expr} {p pos : Pos} {l_script : Rdl (Int)} {l_mu : Int} {l_bulge : Int} {l_place : Box} {l_speed : Box} {l_drift : Int} {l_burns : List (BT)} {l_start : Int} {l_many : Int} (T : Tx X.w X.K X.mg) (hr : Room 3 X.A) (h : PAX X [e1, e2, e3, e4, e5, e6, e7, e8, e9] Γ o [is X.K l_script, is X.K l_mu, is X.K l_bulge, is X.K l_place, is X.K l_speed, is X.K l_drift, is X.K l_burns, is X.K l_start, is X.K l_many]) (hp : p__law_motion l_script l_mu l_bulge l_place l_speed l_drift l_burns l_start l_many) (hg : Gl X "_law_motion" := by rfl) (he : starEach [e1, e2, e3, e4, e5, e6, e7, e8, e9] X.env = (false, eval e1 X.env) :: starEach [e2, e3, e4, e5, e6, e7, e8, e9] X.env := by rfl) (hpl : (backTo pos (starEach [e2, e3, e4, e5, e6, e7, e8, e9] X.env)).any (·.1) = false := by rfl) : PX X (.Call (.Name "_law_motion" p) [e1, e2, e3, e4, e5, e6, e7, e8, e9] [] pos) Γ o (is X.K (v__law_motion l_script l_mu l_bulge l_place l_speed l_drift l_burns l_start l_many)) := x_callF (ok__law_motion T) hr (l_script, l_mu, l_bulge, l_place, l_speed, l_drift, l_burns, l_start, l_many) hp h rfl hg (by decide) he hpl
set_option maxHeartbeats 400000
end Or
set_option maxHeartbeats 400000
/-! The drawn world is within bounds. -/
namespace Or
open PySem L2 L3
theorem boxAt_in {r sp wide : Int} (h1 : 0 ≤ sp) (h2 : 0 ≤ wide) (k : Nat) : ivIn (sp + wide) (boxAt r sp wide k) := by
  have b := spr_bnd (w := 2 * sp + 1) (r := r) rfl h1 k
  have m0 := Int.emod_nonneg (sprRow (wide + 1) (r / (2 * sp + 1) ^ 3) k) (show wide + 1 ≠ 0 by omega)
  have m1 := Int.emod_lt_of_pos (sprRow (wide + 1) (r / (2 * sp + 1) ^ 3) k) (show 0 < wide + 1 by omega)
  unfold bnd at b
  unfold ivIn boxAt
  dsimp only
  omega
theorem lbox_in {r sp wide : Int} (h1 : 0 ≤ sp) (h2 : 0 ≤ wide) : boxIn (sp + wide) (lbox r sp wide) := ⟨boxAt_in h1 h2 0, boxAt_in h1 h2 1, boxAt_in h1 h2 2⟩
theorem ivIn.mono {M N : Int} {a : Iv} (h : ivIn M a) (g : M ≤ N) : ivIn N a := by unfold ivIn at *; omega
theorem boxIn.mono {M N : Int} {x : Box} (h : boxIn M x) (g : M ≤ N) : boxIn N x := ⟨h.1.mono g, h.2.1.mono g, h.2.2.mono g⟩
theorem pick_in {lo hi : Int} {l : List Int} {z d : Int} (h : ∀ x ∈ l, lo ≤ x ∧ x ≤ hi) (h0 : 0 ≤ z) (h1 : z < l.length) : lo ≤ pick l z d ∧ pick l z d ≤ hi := pick_all (p := fun x : Int => lo ≤ x ∧ x ≤ hi) h h0 h1
theorem bgAt_ge (f r : Int) (k : Nat) : f ≤ bgAt f r k ∧ bgAt f r k ≤ f + 4 * (k : Int) ∧ bgAt f r k + 1 + r / 5 % 3 ≤ bgAt f r (k + 1) := by
  have a0 := md0 (r / 5) (y := 3) (by decide)
  have a1 := md1 (r / 5) (y := 3) (by decide)
  have b0 := md0 (r / 7) (y := 2) (by decide)
  have b1 := md1 (r / 7) (y := 2) (by decide)
  induction k with
  | zero =>
    show f ≤ f ∧ f ≤ f + 4 * 0 ∧ f + 1 + r / 5 % 3 ≤ f + 1 + r / 5 % 3 + r / 7 % 2
    omega
  | succ k ih =>
    have e : bgAt f r (k + 1) = bgAt f r k + 1 + r / 5 % 3 + r / 7 % 2 := rfl
    have e2 : bgAt f r (k + 1 + 1) = bgAt f r (k + 1) + 1 + r / 5 % 3 + r / 7 % 2 := rfl
    omega
/-- a drawn burn -/
structure TOk (u : BT) : Prop where
  a0 : 0 ≤ u.a
  ab : u.a < u.b
  b1 : u.b ≤ 100
  c : boxIn 40 u.c
theorem burnAt_ok {f r : Int} (h0 : 0 ≤ f) (h1 : f ≤ 20) {k : Nat} (hk : k ≤ 2) : TOk (burnAt f r k) ∧ f ≤ (burnAt f r k).a := by
  obtain ⟨g1, g2, g3⟩ := bgAt_ge f r k
  have a0 := md0 (r / 5) (y := 3) (by decide)
  have a1 := md1 (r / 5) (y := 3) (by decide)
  have pk := pick_in (lo := 0) (hi := 4) (l := [0, 4]) (z := (k : Int) % 2) (d := 0) (by intro x hx; simp at hx; omega) (md0 _ (by decide)) (md1 _ (by decide))
  refine ⟨⟨?_, ?_, ?_, (lbox_in (sp := 30) (by decide) pk.1).mono (by omega)⟩, g1⟩
  · show 0 ≤ bgAt f r k; omega
  · show bgAt f r k < bgAt f r k + 1 + r / 5 % 3; omega
  · show bgAt f r k + 1 + r / 5 % 3 ≤ 100; omega
structure WOk (w : Wd) : Prop where
  mu0 : 1 ≤ w.mu
  mu1 : w.mu ≤ 10 ^ 9
  b0 : 0 ≤ w.bulge
  b1 : w.bulge ≤ 10 ^ 12
  d0 : 0 ≤ w.drift
  d1 : w.drift ≤ 5
  s0 : 0 ≤ w.start
  s1 : w.start ≤ 8
  f0 : 0 ≤ w.fine
  f1 : w.fine ≤ 2
  m0 : 3 ≤ w.many
  m1 : w.many ≤ 11
  pl : boxIn 5040 w.place
  sp : boxIn 69 w.speed
  bl : w.burns.length ≤ 2
  bu : ∀ u ∈ w.burns, TOk u ∧ w.start ≤ u.a
theorem world_ok (s : List Int) : WOk (lworld s) := by
  have e7 : (10 : Int) ^ 7 = 10000000 := by decide
  have e9 : (10 : Int) ^ 9 = 1000000000 := by decide
  have e12 : (10 : Int) ^ 12 = 1000000000000 := by decide
  generalize h0 : lrow s 0 = r0
  generalize h1 : lrow s 1 = r1
  have mu := pick_in (lo := 1) (hi := 10 ^ 9) (l := [1 + r0 / 7 % 1000, 1 + r0 / 7 % 10 ^ 7, 1 + r0 / 7 % 10 ^ 9]) (z := r0 % 3) (d := 0) (by
    intro x hx
    have q1 := md0 (r0 / 7) (y := 1000) (by decide)
    have q2 := md1 (r0 / 7) (y := 1000) (by decide)
    have q3 := md0 (r0 / 7) (y := 10 ^ 7) (by decide)
    have q4 := md1 (r0 / 7) (y := 10 ^ 7) (by decide)
    have q5 := md0 (r0 / 7) (y := 10 ^ 9) (by decide)
    have q6 := md1 (r0 / 7) (y := 10 ^ 9) (by decide)
    simp only [List.mem_cons, List.mem_nil_iff, or_false] at hx
    omega) (md0 _ (by decide)) (md1 _ (by decide))
  have bulge := pick_in (lo := 0) (hi := 10 ^ 12) (l := [0, r0 / 11 % 10 ^ 12]) (z := r0 / 3 % 2) (d := 0) (by
    intro x hx
    have q1 := md0 (r0 / 11) (y := 10 ^ 12) (by decide)
    have q2 := md1 (r0 / 11) (y := 10 ^ 12) (by decide)
    simp only [List.mem_cons, List.mem_nil_iff, or_false] at hx
    omega) (md0 _ (by decide)) (md1 _ (by decide))
  have drift := pick_in (lo := 0) (hi := 5) (l := [0, 1, r1 / 5 % 6]) (z := r1 % 3) (d := 0) (by
    intro x hx
    have q1 := md0 (r1 / 5) (y := 6) (by decide)
    have q2 := md1 (r1 / 5) (y := 6) (by decide)
    simp only [List.mem_cons, List.mem_nil_iff, or_false] at hx
    omega) (md0 _ (by decide)) (md1 _ (by decide))
  have span := pick_in (lo := 0) (hi := 5000) (l := [30, 300, 5000]) (z := lrow s 2 % 3) (d := 0) (by
    intro x hx
    simp only [List.mem_cons, List.mem_nil_iff, or_false] at hx
    omega) (md0 _ (by decide)) (md1 _ (by decide))
  have wide := pick_in (lo := 0) (hi := 40) (l := [0, 3, 40]) (z := lrow s 2 / 17 % 3) (d := 0) (by
    intro x hx
    simp only [List.mem_cons, List.mem_nil_iff, or_false] at hx
    omega) (md0 _ (by decide)) (md1 _ (by decide))
  have sspan := pick_in (lo := 0) (hi := 60) (l := [5, 60]) (z := lrow s 3 % 2) (d := 0) (by
    intro x hx
    simp only [List.mem_cons, List.mem_nil_iff, or_false] at hx
    omega) (md0 _ (by decide)) (md1 _ (by decide))
  have swide := pick_in (lo := 0) (hi := 9) (l := [0, 2, 9]) (z := lrow s 3 / 13 % 3) (d := 0) (by
    intro x hx
    simp only [List.mem_cons, List.mem_nil_iff, or_false] at hx
    omega) (md0 _ (by decide)) (md1 _ (by decide))
  have st0 := md0 (r1 / 31) (y := 9) (by decide)
  have st1 := md1 (r1 / 31) (y := 9) (by decide)
  have fi0 := md0 (r1 / 279) (y := 3) (by decide)
  have fi1 := md1 (r1 / 279) (y := 3) (by decide)
  have ma0 := md0 (r1 / 837) (y := 9) (by decide)
  have ma1 := md1 (r1 / 837) (y := 9) (by decide)
  have e : lworld s = ⟨wMu r0, wBulge r0, wDrift r1, r1 / 31 % 9, r1 / 279 % 3, 3 + r1 / 837 % 9, wPlace (lrow s 2), wSpeed (lrow s 3), wBurns (r1 / 31 % 9) (lrow s 6)⟩ := by rw [← h0, ← h1]; rfl
  rw [e]
  have n0 := md0 (lrow s 6 / 4) (y := 3) (by decide)
  have n1 := md1 (lrow s 6 / 4) (y := 3) (by decide)
  have o0 := md0 (lrow s 6) (y := 4) (by decide)
  have o1 := md1 (lrow s 6) (y := 4) (by decide)
  refine ⟨mu.1, mu.2, bulge.1, bulge.2, drift.1, drift.2, st0, ?_, fi0, ?_, ?_, ?_, (lbox_in span.1 wide.1).mono ?_, (lbox_in sspan.1 swide.1).mono ?_, ?_, fun u hu => ?_⟩
  · show r1 / 31 % 9 ≤ 8; omega
  · show r1 / 279 % 3 ≤ 2; omega
  · show 3 ≤ 3 + r1 / 837 % 9; omega
  · show 3 + r1 / 837 % 9 ≤ 11; omega
  · have := span.2; have := wide.2; omega
  · have := sspan.2; have := swide.2; omega
  · show (wBurns (r1 / 31 % 9) (lrow s 6)).length ≤ 2
    unfold wBurns
    rw [List.length_map, List.length_range]
    omega
  · obtain ⟨k, hk, rfl⟩ := List.mem_map.mp hu
    have hk := List.mem_range.mp hk
    obtain ⟨g1, g2⟩ := burnAt_ok (f := r1 / 31 % 9 + lrow s 6 % 4) (r := lrow s 6) (by omega) (by omega) (k := k) (by omega)
    exact ⟨g1, by show r1 / 31 % 9 ≤ _; omega⟩
theorem mv_ok {s : List Int} {w : Wd} (h : WOk w) : MvOk (wMv s w) := ⟨h.mu0, h.mu1, h.b0, h.b1, h.d0, by have := h.d1; show w.drift ≤ 10; omega, fun u hu => (h.bu u hu).1.c, h.s0, by have := h.s1; show w.start ≤ 100; omega⟩
theorem moved_in {M d : Int} {a : Iv} (h : ivIn M a) (g : bnd 900 d) : ivIn (M + 900) (movedIv a d) := by
  unfold ivIn bnd movedIv at *
  dsimp only
  omega
theorem here_in (s : List Int) : boxIn 6000 (hereOf s) := by
  have w := world_ok s
  have near := pick_in (lo := 0) (hi := 900) (l := [0, 5, 90, 900]) (z := lrow s 31 % 4) (d := 0) (by
    intro x hx
    simp only [List.mem_cons, List.mem_nil_iff, or_false] at hx
    omega) (md0 _ (by decide)) (md1 _ (by decide))
  have b := fun i => (spr_bnd (w := 2 * pick [0, 5, 90, 900] (lrow s 31 % 4) 0 + 1) (r := lrow s 31 / 4) rfl near.1 i).mono near.2
  exact ⟨(moved_in w.pl.1 (b 0)).mono (by decide), (moved_in w.pl.2.1 (b 1)).mono (by decide), (moved_in w.pl.2.2 (b 2)).mono (by decide)⟩
theorem sw_in {r : Int} {a : Iv} (h : ivIn 69 a) : ivIn 80 (swIv a r) := by
  have q1 := md0 (r / 9) (y := 5) (by decide)
  have q2 := md1 (r / 9) (y := 5) (by decide)
  unfold ivIn swIv at *
  dsimp only
  omega
theorem swift_in (s : List Int) : boxIn 80 (swiftOf s) := let w := world_ok s; ⟨sw_in w.sp.1, sw_in w.sp.2.1, sw_in w.sp.2.2⟩
theorem later_in (s : List Int) : 0 ≤ laterOf s ∧ laterOf s ≤ 20 := by
  have w := world_ok s
  have p := pick_in (lo := 0) (hi := 3) (l := [0, lrow s 31 / 11 % 4]) (z := lrow s 31 / 3 % 2) (d := 0) (by
    intro x hx
    have q1 := md0 (lrow s 31 / 11) (y := 4) (by decide)
    have q2 := md1 (lrow s 31 / 11) (y := 4) (by decide)
    simp only [List.mem_cons, List.mem_nil_iff, or_false] at hx
    omega) (md0 _ (by decide)) (md1 _ (by decide))
  have a := w.s0
  have b := w.s1
  unfold laterOf
  omega
theorem other_mv (s : List Int) : MvOk (otherMv s) := by
  have w := world_ok s
  have l := later_in s
  exact ⟨w.mu0, w.mu1, w.b0, w.b1, w.d0, by have := w.d1; show (lworld s).drift ≤ 10; omega, fun u hu => (nomatch hu), l.1, by show laterOf s ≤ 100; omega⟩
/-! the motions' points -/
structure MotOk (l : List PV) : Prop where
  pos : 0 < l.length
  len : l.length ≤ 12
  bn : ∀ x ∈ l, bndP (10 ^ 15 - 1000) x.a
theorem xok_bn {k : Nat} {x : PV} (hk : k ≤ 11) (h : XOk k x) : bndP (10 ^ 15 - 1000) x.a := h.p.mono (by unfold PB; omega)
theorem motGo_ok {m : Mv} (hm : MvOk m) : ∀ (n k : Nat) (l : List PV) (x : PV), n + k ≤ 11 → l.length = k + 1 → (∀ y ∈ l, bndP (10 ^ 15 - 1000) y.a) → XOk k x → MotOk (motGo m n k l x)
  | 0, k, l, x, hk, hl, h, _ => ⟨by show 0 < l.length; omega, by show l.length ≤ 12; omega, h⟩
  | n + 1, k, l, x, hk, hl, h, g => by
    unfold motGo
    split
    · exact ⟨by omega, by omega, h⟩
    · rename_i hz
      have hz : zeroP x.a = false := by simpa using hz
      have g2 := g.step hm (by omega) hz
      refine motGo_ok hm n (k + 1) _ _ (by omega) (by rw [List.length_append, hl]; rfl) (fun y hy => ?_) g2
      rcases List.mem_append.mp hy with hy | hy
      · exact h y hy
      · rw [List.mem_singleton.mp hy]
        exact xok_bn (by omega) g2
theorem motion_ok {m : Mv} (hm : MvOk m) {place speed : Box} (h1 : boxIn 6000 place) (h2 : boxIn 80 speed) {many : Int} (h3 : many ≤ 11) : MotOk (motion m place speed many) := by
  have g : XOk 0 (mot0 m.s place speed) := ⟨(member_bnd h1 _).mono (by decide), (member_bnd h2 _).mono (by decide)⟩
  refine motGo_ok hm _ 0 _ _ (by omega) rfl (fun y hy => ?_) g
  rw [List.mem_singleton.mp hy]
  exact xok_bn (by decide) g
theorem one_ok (s : List Int) : MotOk (oneOf s) := let w := world_ok s; motion_ok (mv_ok w) (w.pl.mono (by decide)) (w.sp.mono (by decide)) w.m1
theorem other_ok (s : List Int) : MotOk (otherOf s) := let w := world_ok s; motion_ok (other_mv s) (here_in s) (swift_in s) w.m1
end Or
set_option maxHeartbeats 400000
namespace Or
open PySem PySem.Spec PyProof.Rows L2 L3
local macro_rules | `(tactic| walk_at "gle") => `(tactic| (repeat (first | exact GLe.nil | refine GLe.keep ?_ | refine GLe.drop ?_)))
theorem fmr_succ {α : Type} {f : Nat → Option α} {k : Nat} : (List.range (k + 1)).filterMap f = (List.range k).filterMap f ++ (match f k with | some b => [b] | none => []) := by
  rw [List.range_succ, List.filterMap_append]
  congr 1
  show ([k] : List Nat).filterMap f = _
  cases q : f k <;> simp [q]
theorem fmr_len {α : Type} {f : Nat → Option α} {k : Nat} : ((List.range k).filterMap f).length ≤ k := Nat.le_trans (List.length_filterMap_le ..) (by rw [List.length_range]; exact Nat.le_refl _)
theorem sc__law_seen : FnScope ["_law_script", "_law_motion_here", "_law_start", "_law_row_here", "_law_seen_here", "_law_k", "_law_wide", "_law_less", "_law_c"] ["_law_script", "_law_motion_here", "_law_start"] (defScope st__law_seen) := ⟨rfl, rfl, rfl, by decide +kernel, rfl, by decide +kernel, by decide +kernel⟩
abbrev v__law_seen (l_script : Rdl (Int)) (l_motion_here : List (PV)) (l_start : Int) : List (ST) := lseen l_script.l l_motion_here l_start
def p__law_seen (l_script : Rdl (Int)) (l_motion_here : List (PV)) (l_start : Int) : Prop := l_motion_here.length ≤ 500
theorem ok__law_seen {P : Program} {w : World} {K : Fg} {mg : Str → Option Value} {base : Heap} (T : Tx w K mg) : Fok P w K mg base 2 "_law_seen" ["_law_script", "_law_motion_here", "_law_start"] (spF (fun a : Rdl (Int) × List (PV) × Int => p__law_seen a.1 a.2.1 a.2.2) (fun a : Rdl (Int) × List (PV) × Int => [is K a.1, is K a.2.1, is K a.2.2]) fun a => is K (v__law_seen a.1 a.2.1 a.2.2)) := by
  refine fokR T.fn__law_seen T.glo__law_seen (fun _ _ _ _ _ _ us hl => match us, hl with | [_, _, _], _ => rfl) sc__law_seen (fun _ => rfl) fun cdv A outer s H E hr a hp => ?_
  obtain ⟨l_script, l_motion_here, l_start⟩ := a
  have nd := sc__law_seen.nd
  have hp : p__law_seen l_script l_motion_here l_start := hp
  show SXs _ _ (as (G0 [is K l_script, is K l_motion_here, is K l_start] _) none) _ _ _ (retV (is K (v__law_seen l_script l_motion_here l_start)))
  have hp : l_motion_here.length ≤ 500 := hp
  have ev : v__law_seen l_script l_motion_here l_start = (List.range l_motion_here.length).filterMap (seenOne (lrow l_script.l 7) l_start l_motion_here) := rfl
  refine sx_cons (sx_set 3 nd (c__law_row T (hr.mono (by decide)) (xs_cons (x_var 0 rfl) (xs_cons x_int xs_nil)) ⟨by omega, by omega⟩)) ?_
  unfold v__law_row
  generalize lrow l_script.l 7 = r at ev ⊢
  refine sx_cons (sx_new (α := ST) 4 nd) ?_
  show SXs _ _ (as [some (is K l_script), some (is K l_motion_here), some (is K l_start), some (is K r), none, none, none, none, none] (some (ownL K 4 ([] : List ST)))) _ _ _ _
  refine sx_forU (ι := Unit) (rngL 0 (l_motion_here.length : Int).toNat) (fun k _ => [(3, some (is K (seenRow r k)))]) (fun k _ => some (ownL K 4 ((List.range k).filterMap (seenOne r l_start l_motion_here)))) (fun _ _ => True) () (i_rng1 T.free_range (xs_cons (x_lenL T.free_len (xs_cons (x_var 1 rfl) xs_nil)) xs_nil) (by omega)) trivial (by walk_at "gle") rfl (fun k _ a ha _ => ?_) (fun _ _ => ?_)
  · obtain ⟨hk, rfl⟩ := rngL_get ha
    have hk : k < l_motion_here.length := by omega
    refine ⟨_, [5], g_name 5 nd, own_ninL (by decide), ?_⟩
    have ek : (0 : Int) + (k : Int) = (k : Int) := by omega
    rw [ek]
    have hl := fmr_len (f := seenOne r l_start l_motion_here) (k := k)
    have e := fmr_succ (f := seenOne r l_start l_motion_here) (k := k)
    have e1 : seenOne r l_start l_motion_here k = if seenRow r k % 3 = 0 then (l_motion_here[k]?).map fun x => ⟨l_start + (k : Int), seenBox (seenRow r k) x.a⟩ else none := rfl
    have hx := List.getElem?_eq_getElem hk
    generalize l_motion_here[k] = x at hx
    rw [hx] at e1
    have er : seenRow r (k + 1) = seenRow r k / 15 + (k : Int) * 31 := rfl
    show SXs _ _ (as [some (is K l_script), some (is K l_motion_here), some (is K l_start), some (is K (seenRow r k)), none, some (is K (k : Int)), none, none, none] (some (ownL K 4 ((List.range k).filterMap (seenOne r l_start l_motion_here))))) (loopA [some (is K l_script), some (is K l_motion_here), some (is K l_start), some (is K r), none, none, none, none, none] (fun k _ => [(3, some (is K (seenRow r k)))]) (fun k _ => some (ownL K 4 ((List.range k).filterMap (seenOne r l_start l_motion_here)))) (fun _ _ => True) (k + 1)) _ _ _
    refine sx_cons (M := as [some (is K l_script), some (is K l_motion_here), some (is K l_start), some (is K (seenRow r k)), none, some (is K (k : Int)), none, none, none] (some (ownL K 4 ((List.range (k + 1)).filterMap (seenOne r l_start l_motion_here))))) (sx_if (t_eq (x_mod (x_var 3 rfl) x_int (by decide)) x_int) (fun h => ?_) (fun h => ?_)) ?_
    · rw [if_pos (of_decide_eq_true h)] at e1
      rw [e1] at e
      refine sx_cons (sx_set (P := is K (pick [0, seenRow r k / 3 % 5, seenRow r k / 3 % 400] (seenRow r k / 5 % 3) 0)) 6 nd (x_pick (l := [0, seenRow r k / 3 % 5, seenRow r k / 3 % 400]) 0 (PX.eq (x_lst (xs_cons x_int (xs_cons (x_mod (x_div (x_var 3 rfl) x_int (dv (by decide) (by decide))) x_int (by decide)) (xs_cons (x_mod (x_div (x_var 3 rfl) x_int (dv (by decide) (by decide))) x_int (by decide)) xs_nil)))) rfl) (x_mod (x_div (x_var 3 rfl) x_int (dv (by decide) (by decide))) x_int (by decide)) (md0 _ (by decide)) (md1 _ (by decide)))) ?_
      refine sx_cons (sx_set (P := is K (pick [0, seenRow r k / 7 % 3] (seenRow r k / 2 % 2) 0)) 7 nd (x_pick (l := [0, seenRow r k / 7 % 3]) 0 (PX.eq (x_lst (xs_cons x_int (xs_cons (x_mod (x_div (x_var 3 rfl) x_int (dv (by decide) (by decide))) x_int (by decide)) xs_nil))) rfl) (x_mod (x_div (x_var 3 rfl) x_int (dv (by decide) (by decide))) x_int (by decide)) (md0 _ (by decide)) (md1 _ (by decide)))) ?_
      refine sx_cons (sx_append (y := (⟨l_start + (k : Int), seenBox (seenRow r k) x.a⟩ : ST)) (x_t2 (xs_cons (x_add (x_var 2 rfl) (x_var 5 rfl)) (xs_cons (PX.eq (x_tupL T.free_tuple (xs_cons (x_lc [("_law_c", 8)] (fun _ => true) (fun c : Int => (⟨c - pick [0, seenRow r k / 3 % 5, seenRow r k / 3 % 400] (seenRow r k / 5 % 3) 0, c + pick [0, seenRow r k / 3 % 5, seenRow r k / 3 % 400] (seenRow r k / 5 % 3) 0 + pick [0, seenRow r k / 7 % 3] (seenRow r k / 2 % 2) 0⟩ : Iv)) nd (i_3 (x2a (xLv (x_var 1 rfl) (x_var 5 rfl) (ixN_nat hk) hx))) (show 3 ≤ 1000 by decide) (own_ninL (by decide)) (blkOk_by (own := [("_law_c", 8)]) (N := ["_law_script", "_law_motion_here", "_law_start", "_law_row_here", "_law_seen_here", "_law_k", "_law_wide", "_law_less", "_law_c"]) (sc := defScope st__law_seen) (by decide +kernel)) (fun a ha => ⟨_, [8], by decide, fun s H C cl fp => ⟨g_name 8 nd, ts_nil, fun _ => x_t2 (xs_cons (x_sub (x_var 8 rfl) (x_var 6 rfl)) (xs_cons (x_add (x_add (x_var 8 rfl) (x_var 6 rfl)) (x_var 7 rfl)) xs_nil))⟩⟩)) xs_nil)) ?_) xs_nil))) (show ((List.range k).filterMap (seenOne r l_start l_motion_here)).length ≤ 1000 by omega)) ?_
      · rfl
      · rw [e]
        exact sx_end (as_le (by walk_at "gle"))
    · rw [if_neg (of_decide_eq_false h)] at e1
      rw [e1] at e
      dsimp only at e
      rw [List.append_nil] at e
      rw [e]
      exact sx_end (as_le (by walk_at "gle"))
    refine sx_cons (sx_set (P := is K (seenRow r (k + 1))) 3 nd (x_add (x_div (x_var 3 rfl) x_int (dv (by decide) (by decide))) (x_muls (x_var 5 rfl) x_int (small_mulr (by decide) (by decide))))) (sx_endU () trivial (by walk_at "gle") rfl)
  · rw [rngL_len]
    refine sx_freeze ?_
    exact sx_last (sx_retD (x_var 4 rfl) ev.symm)
theorem c__law_seen {X : Cx} {Γ : Gm} {o : Option Own} {e1 e2 e3 : Expr} {p pos : Pos} {l_script : Rdl (Int)} {l_motion_here : List (PV)} {l_start : Int} (T : Tx X.w X.K X.mg) (hr : Room 2 X.A) (h : PAX X [e1, e2, e3] Γ o [is X.K l_script, is X.K l_motion_here, is X.K l_start]) (hp : p__law_seen l_script l_motion_here l_start) (hg : Gl X "_law_seen" := by rfl) (he : starEach [e1, e2, e3] X.env = (false, eval e1 X.env) :: starEach [e2, e3] X.env := by rfl) (hpl : (backTo pos (starEach [e2, e3] X.env)).any (·.1) = false := by rfl) : PX X (.Call (.Name "_law_seen" p) [e1, e2, e3] [] pos) Γ o (is X.K (v__law_seen l_script l_motion_here l_start)) := x_callF (ok__law_seen T) hr (l_script, l_motion_here, l_start) hp h rfl hg (by decide) he hpl
theorem map_map_tup {α β : Type} {f : α → β} {l : List α} : (l.filter fun _ => true).map f = l.map f := by rw [List.filter_eq_self.mpr fun _ _ => rfl]
theorem sc__law_craft : FnScope ["_law_name", "_law_start", "_law_place", "_law_speed", "_law_drift", "_law_burns", "_law_seen_here", "_law_pushes", "_law_sights", "_law_begin", "_law_end", "_law_box_here", "_law_at"] ["_law_name", "_law_start", "_law_place", "_law_speed", "_law_drift", "_law_burns", "_law_seen_here"] (defScope st__law_craft) := ⟨rfl, rfl, rfl, by decide +kernel, rfl, by decide +kernel, by decide +kernel⟩
abbrev v__law_craft (l_name : Str) (l_start : Int) (l_place : Box) (l_speed : Box) (l_drift : Int) (l_burns : List (BT)) (l_seen_here : List (ST)) : Craft := lcraft l_name l_start l_place l_speed l_drift l_burns l_seen_here
def p__law_craft (l_name : Str) (l_start : Int) (l_place : Box) (l_speed : Box) (l_drift : Int) (l_burns : List (BT)) (l_seen_here : List (ST)) : Prop := (nameOk l_name ∧ (0 ≤ l_start ∧ l_start ≤ 100000) ∧ boxIn MOST l_place ∧ boxIn MOST l_speed ∧ (0 ≤ l_drift ∧ l_drift ≤ MOSTD)) ∧ (l_burns.length ≤ 1000 ∧ l_seen_here.length ≤ 1000) ∧ (∀ u ∈ l_burns, (0 ≤ u.a ∧ u.a < u.b ∧ u.b ≤ 100000) ∧ boxIn MOSTD u.c) ∧ ∀ u ∈ l_seen_here, (0 ≤ u.a ∧ u.a ≤ 100000) ∧ boxIn MOST u.b
theorem ok__law_craft {P : Program} {w : World} {K : Fg} {mg : Str → Option Value} {base : Heap} (T : Tx w K mg) : Fok P w K mg base 5 "_law_craft" ["_law_name", "_law_start", "_law_place", "_law_speed", "_law_drift", "_law_burns", "_law_seen_here"] (spF (fun a : Str × Int × Box × Box × Int × List (BT) × List (ST) => p__law_craft a.1 a.2.1 a.2.2.1 a.2.2.2.1 a.2.2.2.2.1 a.2.2.2.2.2.1 a.2.2.2.2.2.2) (fun a : Str × Int × Box × Box × Int × List (BT) × List (ST) => [is K a.1, is K a.2.1, is K a.2.2.1, is K a.2.2.2.1, is K a.2.2.2.2.1, is K a.2.2.2.2.2.1, is K a.2.2.2.2.2.2]) fun a => is K (v__law_craft a.1 a.2.1 a.2.2.1 a.2.2.2.1 a.2.2.2.2.1 a.2.2.2.2.2.1 a.2.2.2.2.2.2)) := by
  refine fokR T.fn__law_craft T.glo__law_craft (fun _ _ _ _ _ _ us hl => match us, hl with | [_, _, _, _, _, _, _], _ => rfl) sc__law_craft (fun _ => rfl) fun cdv A outer s H E hr a hp => ?_
  obtain ⟨l_name, l_start, l_place, l_speed, l_drift, l_burns, l_seen_here⟩ := a
  have nd := sc__law_craft.nd
  have hp : p__law_craft l_name l_start l_place l_speed l_drift l_burns l_seen_here := hp
  show SXs _ _ (as (G0 [is K l_name, is K l_start, is K l_place, is K l_speed, is K l_drift, is K l_burns, is K l_seen_here] _) none) _ _ _ (retV (is K (v__law_craft l_name l_start l_place l_speed l_drift l_burns l_seen_here)))
  obtain ⟨hc, ⟨l1, l2⟩, hb, hs⟩ := hp
  refine sx_cons (sx_lc 7 [("_law_begin", 9), ("_law_end", 10), ("_law_box_here", 11)] (fun _ => true) toBurn nd (i_L (x_var 5 rfl)) l1 no_own (blkOk_by (own := [("_law_begin", 9), ("_law_end", 10), ("_law_box_here", 11)]) (N := ["_law_name", "_law_start", "_law_place", "_law_speed", "_law_drift", "_law_burns", "_law_seen_here", "_law_pushes", "_law_sights", "_law_begin", "_law_end", "_law_box_here", "_law_at"]) (sc := defScope st__law_craft) (by decide +kernel)) (fun a ha => ⟨_, [9, 10, 11], by decide, fun s H C cl fp => ⟨g_tup (Ps := [is K a.a, is K a.b, is K a.c]) rfl (gs_cons (g_name 9 nd) (gs_cons (g_name 10 nd) (gs_cons (g_name 11 nd) gs_nil))) rfl, ts_nil, fun _ => c_Burn T (hr.mono (by decide)) (xs_cons (x_var 9 rfl) (xs_cons (x_var 10 rfl) (xs_cons (x_var 11 rfl) xs_nil))) (hb a ha)⟩⟩) (by rfl)) ?_
  refine sx_cons (sx_lc 8 [("_law_at", 12), ("_law_box_here", 11)] (fun _ => true) toSight nd (i_L (x_var 6 rfl)) l2 no_own (blkOk_by (own := [("_law_at", 12), ("_law_box_here", 11)]) (N := ["_law_name", "_law_start", "_law_place", "_law_speed", "_law_drift", "_law_burns", "_law_seen_here", "_law_pushes", "_law_sights", "_law_begin", "_law_end", "_law_box_here", "_law_at"]) (sc := defScope st__law_craft) (by decide +kernel)) (fun a ha => ⟨_, [12, 11], by decide, fun s H C cl fp => ⟨g_tup (Ps := [is K a.a, is K a.b]) rfl (gs_cons (g_name 12 nd) (gs_cons (g_name 11 nd) gs_nil)) rfl, ts_nil, fun _ => c_Sighting T (hr.mono (by decide)) (xs_cons (x_var 12 rfl) (xs_cons (x_var 11 rfl) xs_nil)) (hs a ha)⟩⟩) (by rfl)) ?_
  rw [filt_true, filt_true]
  exact sx_last (sx_retD (c_Craft (burns := .ls (l_burns.map toBurn)) (sightings := .ls (l_seen_here.map toSight)) T (hr.mono (by decide)) (xs_cons (x_var 0 rfl) (xs_cons (x_var 1 rfl) (xs_cons (x_var 2 rfl) (xs_cons (x_var 3 rfl) (xs_cons (x_var 4 rfl) (xs_cons (x_var 7 rfl) (xs_cons (x_var 8 rfl) xs_nil))))))) hc) rfl)
theorem c__law_craft {X : Cx} {Γ : Gm} {o : Option Own} {e1 e2 e3 e4 e5 e6 e7 : Expr} {p pos : Pos} {l_name : Str} {l_start : Int} {l_place : Box} {l_speed : Box} {l_drift : Int} {l_burns : List (BT)} {l_seen_here : List (ST)} (T : Tx X.w X.K X.mg) (hr : Room 5 X.A) (h : PAX X [e1, e2, e3, e4, e5, e6, e7] Γ o [is X.K l_name, is X.K l_start, is X.K l_place, is X.K l_speed, is X.K l_drift, is X.K l_burns, is X.K l_seen_here]) (hp : p__law_craft l_name l_start l_place l_speed l_drift l_burns l_seen_here) (hg : Gl X "_law_craft" := by rfl) (he : starEach [e1, e2, e3, e4, e5, e6, e7] X.env = (false, eval e1 X.env) :: starEach [e2, e3, e4, e5, e6, e7] X.env := by rfl) (hpl : (backTo pos (starEach [e2, e3, e4, e5, e6, e7] X.env)).any (·.1) = false := by rfl) : PX X (.Call (.Name "_law_craft" p) [e1, e2, e3, e4, e5, e6, e7] [] pos) Γ o (is X.K (v__law_craft l_name l_start l_place l_speed l_drift l_burns l_seen_here)) := x_callF (ok__law_craft T) hr (l_name, l_start, l_place, l_speed, l_drift, l_burns, l_seen_here) hp h rfl hg (by decide) he hpl
theorem in_three {p : Nat → Bool} (h0 : p 0 = true) (h1 : p 1 = true) (h2 : p 2 = true) : (p 0 && (p 1 && p 2)) = true := by rw [h0, h1, h2]; rfl
theorem in_no {p : Nat → Bool} {k : Nat} (hk : k < 3) (h : p k = false) : (p 0 && (p 1 && p 2)) = false := by
  match k, hk with
  | 0, _ => rw [h]; rfl
  | 1, _ => rw [h]; cases p 0 <;> rfl
  | 2, _ => rw [h]; cases p 0 <;> cases p 1 <;> rfl
theorem sc__law_in : FnScope ["_law_box_here", "_law_point", "_law_k"] ["_law_box_here", "_law_point"] (defScope st__law_in) := ⟨rfl, rfl, rfl, by decide +kernel, rfl, by decide +kernel, by decide +kernel⟩
abbrev v__law_in (l_box_here : Box) (l_point : Pt) : Bool := lin l_box_here l_point
theorem ok__law_in {P : Program} {w : World} {K : Fg} {mg : Str → Option Value} {base : Heap} (T : Tx w K mg) : Fok P w K mg base 1 "_law_in" ["_law_box_here", "_law_point"] (spF (fun a : Box × Pt => True) (fun a : Box × Pt => [is K a.1, is K a.2]) fun a => is K (v__law_in a.1 a.2)) := by
  refine fokR T.fn__law_in T.glo__law_in (fun _ _ _ _ _ _ us hl => match us, hl with | [_, _], _ => rfl) sc__law_in (fun _ => rfl) fun cdv A outer s H E hr a hp => ?_
  obtain ⟨l_box_here, l_point⟩ := a
  have nd := sc__law_in.nd
  show SXs _ _ (as (G0 [is K l_box_here, is K l_point] _) none) _ _ _ (retV (is K (v__law_in l_box_here l_point)))
  have ev : v__law_in l_box_here l_point = ((fun i => Iv.has (Box.at_ l_box_here i) (ptAt l_point i)) 0 && ((fun i => Iv.has (Box.at_ l_box_here i) (ptAt l_point i)) 1 && (fun i => Iv.has (Box.at_ l_box_here i) (ptAt l_point i)) 2)) := rfl
  refine sx_forU (ι := Unit) (rngL 0 3) (fun _ _ => []) (fun _ _ => none) (fun k _ => ∀ i, i < k → Iv.has (Box.at_ l_box_here i) (ptAt l_point i) = true) () (i_rng1 T.free_range (xs_cons x_int xs_nil) (by decide)) (fun i h => absurd h (Nat.not_lt_zero i)) (by walk_at "gle") rfl (fun k _ a ha hk => ?_) (fun _ hk => ?_)
  · obtain ⟨hk3, rfl⟩ := rngL_get ha
    refine ⟨_, [2], g_name 2 nd, no_own, ?_⟩
    refine sx_ifx (t_not (t_chain op_le op_le (x2a (x3v (i := k) (x_var 0 rfl) (x_var 2 rfl) (by omega) (box_at _ hk3))) (x3v (i := k) (x_var 1 rfl) (x_var 2 rfl) (by omega) (pt_at _ hk3)) (x2b (x3v (i := k) (x_var 0 rfl) (x_var 2 rfl) (by omega) (box_at _ hk3))))) (fun h => ?_) (fun h => ?_)
    · have h2 : Iv.has (Box.at_ l_box_here k) (ptAt l_point k) = false := by
        have h3 : (!Iv.has (Box.at_ l_box_here k) (ptAt l_point k)) = true := h
        simpa using h3
      exact sx_last (sx_retD x_bl (ev.trans (in_no (p := fun i => Iv.has (Box.at_ l_box_here i) (ptAt l_point i)) hk3 h2)).symm)
    · have h2 : Iv.has (Box.at_ l_box_here k) (ptAt l_point k) = true := by
        have h3 : (!Iv.has (Box.at_ l_box_here k) (ptAt l_point k)) = false := h
        simpa using h3
      refine sx_endU () (fun i hi => ?_) (by walk_at "gle") rfl
      rcases Nat.lt_succ_iff_lt_or_eq.mp hi with hi | hi
      · exact hk i hi
      · rw [hi]; exact h2
  · have hk := fun i (h : i < 3) => hk i (by rw [rngL_len]; exact h)
    exact sx_last (sx_retD x_bl (ev.trans (in_three (p := fun i => Iv.has (Box.at_ l_box_here i) (ptAt l_point i)) (hk 0 (by decide)) (hk 1 (by decide)) (hk 2 (by decide)))).symm)
theorem c__law_in {X : Cx} {Γ : Gm} {o : Option Own} {e1 e2 : Expr} {p pos : Pos} {l_box_here : Box} {l_point : Pt} (T : Tx X.w X.K X.mg) (hr : Room 1 X.A) (h : PAX X [e1, e2] Γ o [is X.K l_box_here, is X.K l_point]) (hg : Gl X "_law_in" := by rfl) (he : starEach [e1, e2] X.env = (false, eval e1 X.env) :: starEach [e2] X.env := by rfl) (hpl : (backTo pos (starEach [e2] X.env)).any (·.1) = false := by rfl) : PX X (.Call (.Name "_law_in" p) [e1, e2] [] pos) Γ o (is X.K (v__law_in l_box_here l_point)) := x_callF (ok__law_in T) hr (l_box_here, l_point) trivial h rfl hg (by decide) he hpl
end Or
set_option maxHeartbeats 400000
/-! Sightings drawn are within bounds; the drawn contents. -/
namespace Or
open PySem L2 L3
theorem around_in {p : Pt} {w l : Int} (h : bndP (10 ^ 15 - 1000) p) (w0 : 0 ≤ w) (w1 : w ≤ 400) (l0 : 0 ≤ l) (l1 : l ≤ 3) : boxIn MOST (aroundP p w l) := by
  have e : MOST = 10 ^ 15 := rfl
  unfold bndP bnd at h
  unfold boxIn ivIn aroundP
  rw [e]
  dsimp only
  omega
theorem wide_in (q : Int) : 0 ≤ pick [0, q / 3 % 5, q / 3 % 400] (q / 5 % 3) 0 ∧ pick [0, q / 3 % 5, q / 3 % 400] (q / 5 % 3) 0 ≤ 400 := pick_in (lo := 0) (hi := 400) (by
    intro x hx
    have q1 := md0 (q / 3) (y := 5) (by decide)
    have q2 := md1 (q / 3) (y := 5) (by decide)
    have q3 := md0 (q / 3) (y := 400) (by decide)
    have q4 := md1 (q / 3) (y := 400) (by decide)
    simp only [List.mem_cons, List.mem_nil_iff, or_false] at hx
    omega) (md0 _ (by decide)) (md1 _ (by decide))
theorem less_in (q : Int) : 0 ≤ pick [0, q / 7 % 3] (q / 2 % 2) 0 ∧ pick [0, q / 7 % 3] (q / 2 % 2) 0 ≤ 3 := pick_in (lo := 0) (hi := 3) (by
    intro x hx
    have q1 := md0 (q / 7) (y := 3) (by decide)
    have q2 := md1 (q / 7) (y := 3) (by decide)
    simp only [List.mem_cons, List.mem_nil_iff, or_false] at hx
    omega) (md0 _ (by decide)) (md1 _ (by decide))
theorem seenBox_in {p : Pt} (h : bndP (10 ^ 15 - 1000) p) (q : Int) : boxIn MOST (seenBox q p) := around_in h (wide_in q).1 (wide_in q).2 (less_in q).1 (less_in q).2
theorem seen_mem {s : List Int} {mot : List PV} {start : Int} {u : ST} (h : u ∈ lseen s mot start) : ∃ (k : Nat) (x : PV) (q : Int), mot[k]? = some x ∧ u = ⟨start + (k : Int), seenBox q x.a⟩ := by
  obtain ⟨k, hk, e⟩ := List.mem_filterMap.mp h
  unfold seenOne at e
  split at e
  · cases q : mot[k]? with
    | none => rw [q] at e; cases e
    | some x =>
      rw [q] at e
      exact ⟨k, x, _, q, (Option.some.inj e).symm⟩
  · cases e
theorem seen_ok {s : List Int} {mot : List PV} {start : Int} (h : MotOk mot) (h0 : 0 ≤ start) (h1 : start ≤ 100) : ∀ u ∈ lseen s mot start, (0 ≤ u.a ∧ u.a ≤ 100000) ∧ boxIn MOST u.b := by
  intro u hu
  obtain ⟨k, x, q, hk, rfl⟩ := seen_mem hu
  have hl := lt_of hk
  have := h.len
  refine ⟨⟨?_, ?_⟩, seenBox_in (h.bn x (List.mem_of_getElem? hk)) q⟩
  · show 0 ≤ start + (k : Int); omega
  · show start + (k : Int) ≤ 100000; omega
theorem seen_len {s : List Int} {mot : List PV} {start : Int} : (lseen s mot start).length ≤ mot.length := fmr_len
theorem burns_ok {w : Wd} (h : WOk w) : ∀ u ∈ w.burns, (0 ≤ u.a ∧ u.a < u.b ∧ u.b ≤ 100000) ∧ boxIn MOSTD u.c := fun u hu =>
  let t := (h.bu u hu).1
  ⟨⟨t.a0, t.ab, by have := t.b1; omega⟩, t.c.mono (by decide)⟩
theorem most_le {M : Int} {x : Box} (h : boxIn M x) (hm : M ≤ 10 ^ 15) : boxIn MOST x := h.mono hm
end Or
set_option maxHeartbeats 400000
namespace Or
open PySem PySem.Spec PyProof.Rows L2 L3
local macro_rules | `(tactic| walk_at "gle") => `(tactic| (repeat (first | exact GLe.nil | refine GLe.keep ?_ | refine GLe.drop ?_)))
theorem name_a : nameOk "a" := .inl rfl
theorem name_b : nameOk "b" := .inr (.inl rfl)
set_option maxHeartbeats 1200000
theorem sc__law_two : FnScope ["_law_script", "_law_mu", "_law_bulge", "_law_drift", "_law_start", "_law_fineness", "_law_many", "_law_place", "_law_speed", "_law_burns", "_law_body", "_law_one", "_law_seen_here", "_law_first", "_law_row_here", "_law_near", "_law_shift", "_law_here", "_law_swift", "_law_later", "_law_cells", "_law_other", "_law_second", "_law_k"] ["_law_script"] (defScope st__law_two) := ⟨rfl, rfl, rfl, by decide +kernel, rfl, by decide +kernel, by decide +kernel⟩
abbrev v__law_two (l_script : Rdl (Int)) : T3 (Conts) (List (PV)) (List (PV)) := ltwo l_script.l
theorem ok__law_two {P : Program} {w : World} {K : Fg} {mg : Str → Option Value} {base : Heap} (T : Tx w K mg) : Fok P w K mg base 6 "_law_two" ["_law_script"] (spF (fun a : Rdl (Int) => True) (fun a : Rdl (Int) => [is K a]) fun a => is K (v__law_two a)) := by
  refine fokR T.fn__law_two T.glo__law_two (fun _ _ _ _ _ _ us hl => match us, hl with | [_], _ => rfl) sc__law_two (fun _ => rfl) fun cdv A outer s H E hr l_script hp => ?_
  have nd := sc__law_two.nd
  show SXs _ _ (as (G0 [is K l_script] _) none) _ _ _ (retV (is K (v__law_two l_script)))
  have hw := world_ok l_script.l
  have h1 := one_ok l_script.l
  have h2 := other_ok l_script.l
  have hmv := mv_ok (s := l_script.l) hw
  have omv := other_mv l_script.l
  have hhere := here_in l_script.l
  have hswift := swift_in l_script.l
  have hlater := later_in l_script.l
  have ev : v__law_two l_script = ⟨contsOf l_script.l, oneOf l_script.l, otherOf l_script.l⟩ := rfl
  have e1 : oneOf l_script.l = motion ⟨l_script.l, (lworld l_script.l).mu, (lworld l_script.l).bulge, (lworld l_script.l).drift, (lworld l_script.l).burns, (lworld l_script.l).start⟩ (lworld l_script.l).place (lworld l_script.l).speed (lworld l_script.l).many := rfl
  have ef : firstOf l_script.l = lcraft "a" (lworld l_script.l).start (lworld l_script.l).place (lworld l_script.l).speed (lworld l_script.l).drift (lworld l_script.l).burns (lseen l_script.l (oneOf l_script.l) (lworld l_script.l).start) := rfl
  have eo : otherOf l_script.l = motion ⟨cellsOf l_script.l, (lworld l_script.l).mu, (lworld l_script.l).bulge, (lworld l_script.l).drift, [], laterOf l_script.l⟩ (hereOf l_script.l) (swiftOf l_script.l) (lworld l_script.l).many := rfl
  have es : secondOf l_script.l = lcraft "b" (laterOf l_script.l) (hereOf l_script.l) (swiftOf l_script.l) (lworld l_script.l).drift [] (lseen (cellsOf l_script.l) (otherOf l_script.l) (laterOf l_script.l)) := rfl
  have ec : contsOf l_script.l = ⟨⟨(lworld l_script.l).mu, (lworld l_script.l).bulge, ⟨1, 0, 1⟩⟩, 1, (lworld l_script.l).fine, ⟨[firstOf l_script.l, secondOf l_script.l]⟩, ⟨[]⟩⟩ := rfl
  have eh : hereOf l_script.l = ⟨movedIv (lworld l_script.l).place.a (sprAt (2 * pick [0, 5, 90, 900] (lrow l_script.l 31 % 4) 0 + 1) (lrow l_script.l 31 / 4) (pick [0, 5, 90, 900] (lrow l_script.l 31 % 4) 0) 0), movedIv (lworld l_script.l).place.b (sprAt (2 * pick [0, 5, 90, 900] (lrow l_script.l 31 % 4) 0 + 1) (lrow l_script.l 31 / 4) (pick [0, 5, 90, 900] (lrow l_script.l 31 % 4) 0) 1), movedIv (lworld l_script.l).place.c (sprAt (2 * pick [0, 5, 90, 900] (lrow l_script.l 31 % 4) 0 + 1) (lrow l_script.l 31 / 4) (pick [0, 5, 90, 900] (lrow l_script.l 31 % 4) 0) 2)⟩ := rfl
  have ew : swiftOf l_script.l = ⟨swIv (lworld l_script.l).speed.a (lrow l_script.l 31), swIv (lworld l_script.l).speed.b (lrow l_script.l 31), swIv (lworld l_script.l).speed.c (lrow l_script.l 31)⟩ := rfl
  have el : laterOf l_script.l = (lworld l_script.l).start + pick [0, lrow l_script.l 31 / 11 % 4] (lrow l_script.l 31 / 3 % 2) 0 := rfl
  have hnear := pick_in (lo := 0) (hi := 900) (l := [0, 5, 90, 900]) (z := lrow l_script.l 31 % 4) (d := 0) (by
    intro x hx
    simp only [List.mem_cons, List.mem_nil_iff, or_false] at hx
    omega) (md0 _ (by decide)) (md1 _ (by decide))
  rw [ev, ec]
  unfold wMv at hmv
  unfold otherMv at omv
  clear ev ec
  have hs1 := fun u hu => seen_ok (s := l_script.l) h1 hw.s0 (by have := hw.s1; omega) u hu
  have hs2 := fun u hu => seen_ok (s := cellsOf l_script.l) h2 hlater.1 (by have := hlater.2; omega) u hu
  have hl1 := seen_len (s := l_script.l) (mot := oneOf l_script.l) (start := (lworld l_script.l).start)
  have hl2 := seen_len (s := cellsOf l_script.l) (mot := otherOf l_script.l) (start := laterOf l_script.l)
  generalize hW : lworld l_script.l = w at hw hmv omv e1 ef eo es eh ew el hs1 hl1 ⊢
  have hsp := hw.sp
  have hpl := hw.pl
  refine sx_cons (sx_asg (P := tupOf _ [is _ w.mu, is _ w.bulge, is _ w.drift, is _ w.start, is _ w.fine, is _ w.many, is _ w.place, is _ w.speed, is _ w.burns]) (PX.eq (c__law_world T (hr.mono (by decide)) (xs_cons (x_var 0 rfl) xs_nil)) (by show is K (lworld l_script.l) = _; rw [hW]; rfl)) (g_tup rfl (gs_cons (g_name 1 nd) (gs_cons (g_name 2 nd) (gs_cons (g_name 3 nd) (gs_cons (g_name 4 nd) (gs_cons (g_name 5 nd) (gs_cons (g_name 6 nd) (gs_cons (g_name 7 nd) (gs_cons (g_name 8 nd) (gs_cons (g_name 9 nd) gs_nil))))))))) rfl) no_own) ?_
  show SXs _ _ (as [some (is K l_script), some (is K w.mu), some (is K w.bulge), some (is K w.drift), some (is K w.start), some (is K w.fine), some (is K w.many), some (is K w.place), some (is K w.speed), some (is K w.burns), none, none, none, none, none, none, none, none, none, none, none, none, none, none] none) _ _ _ _
  refine sx_cons (sx_set 10 nd (c_Body T (hr.mono (by decide)) (xs_cons (x_var 1 rfl) (xs_cons (x_var 2 rfl) (xs_cons (x_t3 (xs_cons x_int (xs_cons x_int (xs_cons x_int xs_nil)))) xs_nil))) ⟨⟨hw.mu0, by have := hw.mu1; omega⟩, ⟨hw.b0, by have := hw.b1; omega⟩, rfl⟩)) ?_
  refine sx_cons (sx_set (P := is K (oneOf l_script.l)) 11 nd (PX.eq (c__law_motion T (hr.mono (by decide)) (xs_cons (x_var 0 rfl) (xs_cons (x_var 1 rfl) (xs_cons (x_var 2 rfl) (xs_cons (x_var 7 rfl) (xs_cons (x_var 8 rfl) (xs_cons (x_var 3 rfl) (xs_cons (x_var 9 rfl) (xs_cons (x_var 4 rfl) (xs_cons (x_var 6 rfl) xs_nil))))))))) ⟨hmv, ⟨hpl.mono (by decide), hsp.mono (by decide)⟩, by have := hw.m0; omega, hw.m1⟩) (congrArg (is K) e1.symm))) ?_
  generalize oneOf l_script.l = one at h1 ef hs1 hl1 ⊢
  have hlen1 := h1.len
  refine sx_cons (sx_set 12 nd (c__law_seen T (hr.mono (by decide)) (xs_cons (x_var 0 rfl) (xs_cons (x_var 11 rfl) (xs_cons (x_var 4 rfl) xs_nil))) (show one.length ≤ 500 by omega))) ?_
  refine sx_cons (sx_set (P := is K (firstOf l_script.l)) 13 nd (PX.eq (c__law_craft T (hr.mono (by decide)) (xs_cons x_str (xs_cons (x_var 4 rfl) (xs_cons (x_var 7 rfl) (xs_cons (x_var 8 rfl) (xs_cons (x_var 3 rfl) (xs_cons (x_var 9 rfl) (xs_cons (x_var 12 rfl) xs_nil))))))) ⟨⟨name_a, ⟨hw.s0, by have := hw.s1; omega⟩, hpl.mono (by decide), hsp.mono (by decide), ⟨hw.d0, by have := hw.d1; show w.drift ≤ 10 ^ 12; omega⟩⟩, ⟨by have := hw.bl; omega, by show (lseen l_script.l one w.start).length ≤ 1000; omega⟩, burns_ok hw, hs1⟩) (congrArg (is K) ef.symm))) ?_
  generalize firstOf l_script.l = first at ⊢
  clear ef hs1 hl1 e1
  refine sx_cons (sx_set 14 nd (c__law_row T (hr.mono (by decide)) (xs_cons (x_var 0 rfl) (xs_cons x_int xs_nil)) ⟨by decide, by decide⟩)) ?_
  show SXs _ _ (as [some (is K l_script), some (is K w.mu), some (is K w.bulge), some (is K w.drift), some (is K w.start), some (is K w.fine), some (is K w.many), some (is K w.place), some (is K w.speed), some (is K w.burns), some (is K (⟨w.mu, w.bulge, ⟨1, 0, 1⟩⟩ : Body)), some (is K one), some (is K (lseen l_script.l one w.start)), some (is K first), some (is K (lrow l_script.l 31)), none, none, none, none, none, none, none, none, none] none) _ _ _ _
  generalize lrow l_script.l 31 = r at hnear eh ew el ⊢
  refine sx_cons (sx_set (P := is K (pick [0, 5, 90, 900] (r % 4) 0)) 15 nd (x_pick (l := [0, 5, 90, 900]) 0 (PX.eq (x_lst (xs_cons x_int (xs_cons x_int (xs_cons x_int (xs_cons x_int xs_nil))))) rfl) (x_mod (x_var 14 rfl) x_int (by decide)) (md0 _ (by decide)) (md1 _ (by decide)))) ?_
  refine sx_cons (sx_set (P := is K (spread (r / 4) 3 (pick [0, 5, 90, 900] (r % 4) 0))) 16 nd (c__law_spread T (hr.mono (by decide)) (xs_cons (x_div (x_var 14 rfl) x_int (dv (by decide) (by decide))) (xs_cons x_int (xs_cons (x_var 15 rfl) xs_nil))) ⟨⟨by decide, by decide⟩, ⟨hnear.1, by omega⟩⟩)) ?_
  have sg := fun {i : Nat} (hi : i < 3) => spread_get (r := r / 4) (sp := pick [0, 5, 90, 900] (r % 4) 0) hi
  have sl := spread_len (r := r / 4) (n := 3) (sp := pick [0, 5, 90, 900] (r % 4) 0)
  generalize sprAt (2 * pick [0, 5, 90, 900] (r % 4) 0 + 1) (r / 4) (pick [0, 5, 90, 900] (r % 4) 0) = spr at sg eh
  generalize spread (r / 4) 3 (pick [0, 5, 90, 900] (r % 4) 0) = shift at sg sl ⊢
  refine sx_cons (sx_set (P := is K (hereOf l_script.l)) 17 nd (PX.eq (x_tupL T.free_tuple (xs_cons (x_lc [("_law_k", 23)] (fun _ => true) (fun j : Int => (⟨(Box.at_ w.place j.toNat).a + spr j.toNat, (Box.at_ w.place j.toNat).b + spr j.toNat⟩ : Iv)) nd (i_rng1 T.free_range (xs_cons x_int xs_nil) (by decide)) (by decide) no_own (blkOk_by (own := [("_law_k", 23)]) (N := ["_law_script", "_law_mu", "_law_bulge", "_law_drift", "_law_start", "_law_fineness", "_law_many", "_law_place", "_law_speed", "_law_burns", "_law_body", "_law_one", "_law_seen_here", "_law_first", "_law_row_here", "_law_near", "_law_shift", "_law_here", "_law_swift", "_law_later", "_law_cells", "_law_other", "_law_second", "_law_k"]) (sc := defScope st__law_two) (by decide +kernel)) (fun a ha => ?_)) xs_nil)) ?_)) ?_
  · obtain ⟨i, hi, rfl⟩ := rng_mem ha
    have e : ((0 : Int) + (i : Int)).toNat = i := by omega
    have hix : ixN shift.length ((0 : Int) + (i : Int)) = some i := by rw [sl, show (0 : Int) + (i : Int) = (i : Int) by omega]; exact ixN_nat hi
    refine ⟨_, [23], by decide, fun s H C cl fp => ⟨g_name 23 nd, ts_nil, fun _ => ?_⟩⟩
    rw [e]
    exact x_t2 (xs_cons (x_add (x2a (x3v (i := i) (x_var 7 rfl) (x_var 23 rfl) (by omega) (box_at _ hi))) (xLv (x_var 16 rfl) (x_var 23 rfl) hix (sg hi))) (xs_cons (x_add (x2b (x3v (i := i) (x_var 7 rfl) (x_var 23 rfl) (by omega) (box_at _ hi))) (xLv (x_var 16 rfl) (x_var 23 rfl) hix (sg hi))) xs_nil))
  · rw [eh]
    rfl
  refine sx_cons (sx_set (P := is K (swiftOf l_script.l)) 18 nd (PX.eq (x_tupL T.free_tuple (xs_cons (x_lc [("_law_k", 23)] (fun _ => true) (fun j : Int => (⟨(Box.at_ w.speed j.toNat).a + r / 9 % 5 - 2, (Box.at_ w.speed j.toNat).b + r / 9 % 5 - 2⟩ : Iv)) nd (i_rng1 T.free_range (xs_cons x_int xs_nil) (by decide)) (by decide) no_own (blkOk_by (own := [("_law_k", 23)]) (N := ["_law_script", "_law_mu", "_law_bulge", "_law_drift", "_law_start", "_law_fineness", "_law_many", "_law_place", "_law_speed", "_law_burns", "_law_body", "_law_one", "_law_seen_here", "_law_first", "_law_row_here", "_law_near", "_law_shift", "_law_here", "_law_swift", "_law_later", "_law_cells", "_law_other", "_law_second", "_law_k"]) (sc := defScope st__law_two) (by decide +kernel)) (fun a ha => ?_)) xs_nil)) ?_)) ?_
  · obtain ⟨i, hi, rfl⟩ := rng_mem ha
    have e : ((0 : Int) + (i : Int)).toNat = i := by omega
    refine ⟨_, [23], by decide, fun s H C cl fp => ⟨g_name 23 nd, ts_nil, fun _ => ?_⟩⟩
    rw [e]
    exact x_t2 (xs_cons (x_sub (x_add (x2a (x3v (i := i) (x_var 8 rfl) (x_var 23 rfl) (by omega) (box_at _ hi))) (x_mod (x_div (x_var 14 rfl) x_int (dv (by decide) (by decide))) x_int (by decide))) x_int) (xs_cons (x_sub (x_add (x2b (x3v (i := i) (x_var 8 rfl) (x_var 23 rfl) (by omega) (box_at _ hi))) (x_mod (x_div (x_var 14 rfl) x_int (dv (by decide) (by decide))) x_int (by decide))) x_int) xs_nil))
  · rw [ew]
    rfl
  refine sx_cons (sx_set (P := is K (laterOf l_script.l)) 19 nd (PX.eq (x_add (x_var 4 rfl) (x_pick (l := [0, r / 11 % 4]) 0 (PX.eq (x_lst (xs_cons x_int (xs_cons (x_mod (x_div (x_var 14 rfl) x_int (dv (by decide) (by decide))) x_int (by decide)) xs_nil))) rfl) (x_mod (x_div (x_var 14 rfl) x_int (dv (by decide) (by decide))) x_int (by decide)) (md0 _ (by decide)) (md1 _ (by decide)))) (congrArg (is K) el.symm))) ?_
  show SXs _ _ (as [some (is K l_script), some (is K w.mu), some (is K w.bulge), some (is K w.drift), some (is K w.start), some (is K w.fine), some (is K w.many), some (is K w.place), some (is K w.speed), some (is K w.burns), some (is K (⟨w.mu, w.bulge, ⟨1, 0, 1⟩⟩ : Body)), some (is K one), some (is K (lseen l_script.l one w.start)), some (is K first), some (is K r), some (is K (pick [0, 5, 90, 900] (r % 4) 0)), some (is K shift), some (is K (hereOf l_script.l)), some (is K (swiftOf l_script.l)), some (is K (laterOf l_script.l)), none, none, none, none] none) _ _ _ _
  refine sx_cons (sx_lc 20 [("_law_k", 23)] (fun _ => true) (fun j : Int => lrow l_script.l (62 - j)) nd (i_rng1 T.free_range (xs_cons x_int xs_nil) (by decide)) (by decide) no_own (blkOk_by (own := [("_law_k", 23)]) (N := ["_law_script", "_law_mu", "_law_bulge", "_law_drift", "_law_start", "_law_fineness", "_law_many", "_law_place", "_law_speed", "_law_burns", "_law_body", "_law_one", "_law_seen_here", "_law_first", "_law_row_here", "_law_near", "_law_shift", "_law_here", "_law_swift", "_law_later", "_law_cells", "_law_other", "_law_second", "_law_k"]) (sc := defScope st__law_two) (by decide +kernel)) (fun a ha => ?_) (by rfl)) ?_
  · obtain ⟨i, hi, rfl⟩ := rng_mem ha
    exact ⟨_, [23], by decide, fun s H C cl fp => ⟨g_name 23 nd, ts_nil, fun _ => c__law_row T (hr.mono (by decide)) (xs_cons (x_var 0 rfl) (xs_cons (x_sub x_int (x_var 23 rfl)) xs_nil)) ⟨by omega, by omega⟩⟩⟩
  have ecl : ((rngL 0 (30 : Int).toNat).filter fun _ => true).map (fun j : Int => lrow l_script.l (62 - j)) = cellsOf l_script.l := by
    rw [filt_true]
    unfold rngL cellsOf
    rw [List.map_map]
    refine List.map_congr_left fun k _ => ?_
    show lrow l_script.l (62 - (0 + (k : Int))) = lrow l_script.l (62 - (k : Int))
    rw [Int.zero_add]
  rw [ecl]
  refine sx_cons (sx_set (P := is K (otherOf l_script.l)) 21 nd (PX.eq (c__law_motion (l_script := ⟨cellsOf l_script.l⟩) (l_burns := []) T (hr.mono (by decide)) (xs_cons (x_toR (x_var 20 rfl)) (xs_cons (x_var 1 rfl) (xs_cons (x_var 2 rfl) (xs_cons (x_var 17 rfl) (xs_cons (x_var 18 rfl) (xs_cons (x_var 3 rfl) (xs_cons (PX.eq (x_lst xs_nil) rfl) (xs_cons (x_var 19 rfl) (xs_cons (x_var 6 rfl) xs_nil))))))))) ⟨omv, ⟨hhere, hswift⟩, by have := hw.m0; omega, hw.m1⟩) (congrArg (is K) eo.symm))) ?_
  generalize otherOf l_script.l = other at h2 es hs2 hl2 ⊢
  have hlen2 := h2.len
  refine sx_cons (sx_set (P := is K (secondOf l_script.l)) 22 nd (PX.eq (c__law_craft (l_burns := []) T (hr.mono (by decide)) (xs_cons x_str (xs_cons (x_var 19 rfl) (xs_cons (x_var 17 rfl) (xs_cons (x_var 18 rfl) (xs_cons (x_var 3 rfl) (xs_cons (PX.eq (x_lst xs_nil) rfl) (xs_cons (c__law_seen (l_script := ⟨cellsOf l_script.l⟩) T (hr.mono (by decide)) (xs_cons (x_toR (x_var 20 rfl)) (xs_cons (x_var 21 rfl) (xs_cons (x_var 19 rfl) xs_nil))) (show other.length ≤ 500 by omega)) xs_nil))))))) ⟨⟨name_b, ⟨hlater.1, by have := hlater.2; omega⟩, hhere.mono (by decide), hswift.mono (by decide), ⟨hw.d0, by have := hw.d1; show w.drift ≤ 10 ^ 12; omega⟩⟩, ⟨Nat.zero_le _, by show (lseen (cellsOf l_script.l) other (laterOf l_script.l)).length ≤ 1000; omega⟩, fun u hu => (nomatch hu), hs2⟩) (congrArg (is K) es.symm))) ?_
  generalize secondOf l_script.l = second at ⊢
  exact sx_last (sx_retD (x_t3 (xs_cons (PX.eq (c_Contents (crafts := .ls [first, second]) (sites := .ls []) T (hr.mono (by decide)) (xs_cons (x_var 10 rfl) (xs_cons x_int (xs_cons (x_var 5 rfl) (xs_cons (PX.eq (x_lst (xs_cons (x_var 13 rfl) (xs_cons (x_var 22 rfl) xs_nil))) rfl) (xs_cons (PX.eq (x_lst xs_nil) rfl) xs_nil))))) ⟨⟨by decide, by decide⟩, ⟨hw.f0, by have := hw.f1; omega⟩⟩) rfl) (xs_cons (x_var 11 rfl) (xs_cons (x_var 21 rfl) xs_nil)))) rfl)

theorem c__law_two {X : Cx} {Γ : Gm} {o : Option Own} {e1 : Expr} {p pos : Pos} {l_script : Rdl (Int)} (T : Tx X.w X.K X.mg) (hr : Room 6 X.A) (h : PAX X [e1] Γ o [is X.K l_script]) (hg : Gl X "_law_two" := by rfl) (he : starEach [e1] X.env = (false, eval e1 X.env) :: starEach [] X.env := by rfl) (hpl : (backTo pos (starEach [] X.env)).any (·.1) = false := by rfl) : PX X (.Call (.Name "_law_two" p) [e1] [] pos) Γ o (is X.K (v__law_two l_script)) := x_callF (ok__law_two T) hr (l_script) trivial h rfl hg (by decide) he hpl
set_option maxHeartbeats 400000
end Or
set_option maxHeartbeats 400000
/-! Where a course's pieces and a meeting's spans lie. -/
namespace Or
open PySem L2 L3
structure POk (st : Int) (p : Piece) : Prop where
  b : st ≤ p.b
  be : p.b ≤ p.e
  len : p.parts.l.length ≤ 64
theorem addPiece_ok {st stride bg t : Int} {ps : List Piece} {rows : List CRow} (h : ∀ p ∈ ps, POk st p) (h1 : st ≤ bg) (h2 : bg ≤ t) (hl : rows.length ≤ 64) : ∀ p ∈ addPiece ps rows bg stride t, POk st p := by
  intro p hp
  unfold addPiece at hp
  split at hp
  · rcases List.mem_append.mp hp with hp | hp
    · exact h p hp
    · rw [List.mem_singleton.mp hp]
      exact ⟨h1, h2, by show (rows.map _).length ≤ 64; rw [List.length_map]; exact hl⟩
  · exact h p hp
theorem courseGo_ok {b : Body} {c : Craft} {stride u st : Int} : ∀ (n : Nat) (ps : List Piece) (rows : List CRow) (bg t : Int), (∀ p ∈ ps, POk st p) → st ≤ bg → bg ≤ t → rows.length ≤ 64 → ∀ p ∈ (courseGo b c stride u n ps rows bg t).pieces, POk st p
  | 0, ps, rows, bg, t, h, _, _, _ => h
  | n + 1, ps, rows, bg, t, h, h1, h2, hl => by
    have a := addPiece_ok (stride := stride) h h1 h2 hl
    have nl := nextRows_len (b := b) (c := c) (t := t) (rows := rows)
    unfold courseGo
    split
    · exact a
    · split
      · split
        · exact courseGo_ok n _ _ _ _ a (by omega) (Int.le_refl _) (by unfold restart; rw [List.length_map]; omega)
        · exact courseGo_ok n _ _ _ _ a h1 (by omega) (by omega)
      · exact a
theorem course_ok {k : Conts} (hf : k.fine ≤ 6) {c : Craft} {u : Int} : ∀ p ∈ (course k c u).pieces, POk c.start p := by
  unfold course
  split
  · intro p hp; cases hp
  · split
    · intro p hp; cases hp
    · exact courseGo_ok _ _ _ _ _ (fun p hp => nomatch hp) (Int.le_refl _) (Int.le_refl _) (by unfold startRows; rw [List.length_map]; exact first_len hf)
/-! spans -/
def SpIn (lo hi : Int) (s : Span) : Prop := lo ≤ s.b ∧ s.b ≤ s.e ∧ s.e ≤ hi
theorem addRow_in {lo hi d : Int} {l : List Span} {r : Row} (h : ∀ s ∈ l, SpIn lo hi s ∧ s.e ≤ r.at_) (h1 : lo ≤ r.at_) (h2 : r.at_ ≤ hi) : ∀ s ∈ addRow d l r, SpIn lo hi s ∧ s.e ≤ r.at_ := by
  intro s hs
  have one : SpIn lo hi ⟨r.at_, r.at_, r.verdict d, r.sq⟩ := ⟨h1, Int.le_refl _, h2⟩
  unfold addRow at hs
  split at hs
  · rename_i s0 e0
    split at hs
    · rcases List.mem_or_eq_of_mem_set hs with hs | hs
      · exact h s hs
      · have g := h s0 (List.mem_of_getLast? e0)
        rw [hs]
        exact ⟨⟨g.1.1, Int.le_trans g.1.2.1 g.2, h2⟩, Int.le_refl _⟩
    · rcases List.mem_append.mp hs with hs | hs
      · exact h s hs
      · rw [List.mem_singleton.mp hs]; exact ⟨one, Int.le_refl _⟩
  · rcases List.mem_append.mp hs with hs | hs
    · exact h s hs
    · rw [List.mem_singleton.mp hs]; exact ⟨one, Int.le_refl _⟩
/-- rows in order -/
theorem spans_in {lo hi d : Int} : ∀ (rows : List Row) (l : List Span) (t : Int), (∀ s ∈ l, SpIn lo hi s ∧ s.e ≤ t) → (∀ (i : Nat) (r : Row), rows[i]? = some r → r.at_ = t + (i : Int) + 1 ∧ lo ≤ r.at_ ∧ r.at_ ≤ hi) → ∀ s ∈ rows.foldl (addRow d) l, SpIn lo hi s
  | [], l, t, h, _ => fun s hs => (h s hs).1
  | r :: rows, l, t, h, g => by
    obtain ⟨g1, g2, g3⟩ := g 0 r rfl
    have a := addRow_in (d := d) (l := l) (r := r) (fun s hs => ⟨(h s hs).1, by have := (h s hs).2; omega⟩) g2 g3
    refine spans_in rows _ r.at_ a fun i z hz => ?_
    obtain ⟨k1, k2, k3⟩ := g (i + 1) z (by simpa using hz)
    refine ⟨?_, k2, k3⟩
    rw [k1, g1]
    omega
theorem row_at (a b : Journey) (t : Int) : (tickRow a b t).at_ = t := by
  unfold tickRow
  split <;> rfl
theorem meeting_in {k : Conts} {a b : Craft} {lo hi d : Int} (hl : lowTick a b lo = lo) : ∀ t ∈ meeting k a b lo hi d, lo ≤ t.b ∧ t.b ≤ t.e ∧ t.e ≤ hi := by
  intro t ht
  obtain ⟨s, hs, rfl⟩ := List.mem_map.mp ht
  refine spans_in (ticksOf k a b lo hi) [] (lo - 1) (fun s hs => nomatch hs) (fun i r hr => ?_) s hs
  unfold ticksOf at hr
  rw [List.getElem?_map, hl] at hr
  by_cases hi2 : i < (hi + 1 - lo).toNat
  · rw [List.getElem?_range hi2] at hr
    have e := (Option.some.inj hr).symm
    rw [e, row_at]
    omega
  · rw [List.getElem?_eq_none (by simpa using hi2)] at hr
    cases hr
end Or
set_option maxHeartbeats 400000
namespace Or
open PySem PySem.Spec PyProof.Rows L2 L3
local macro_rules | `(tactic| walk_at "gle") => `(tactic| (repeat (first | exact GLe.nil | refine GLe.keep ?_ | refine GLe.drop ?_)))
theorem sum_ones {α : Type} (l : List α) : (l.map fun _ => (1 : Int)).sum = (l.length : Int) := by
  induction l with
  | nil => rfl
  | cons a l ih =>
    rw [List.map_cons, List.sum_cons, ih, List.length_cons]
    omega
theorem any_of_len {α : Type} {l : List α} {p : α → Bool} : (l.any p) = decide (0 < (l.filter p).length) := by
  induction l with
  | nil => rfl
  | cons a l ih =>
    rw [List.any_cons, List.filter_cons]
    cases h : p a with
    | true => simp
    | false => simpa using ih
theorem mot_get {mot : List PV} {i : Nat} (h : i < mot.length) : mot[i]? = some (mot.getD i ⟨⟨0, 0, 0⟩, ⟨0, 0, 0⟩⟩) := by
  rw [List.getD_eq_getElem?_getD, List.getElem?_eq_getElem h]
  rfl
theorem rng_eq (a b : Int) : rngL a (b + 1 - a).toNat = placesOf.rng a b := rfl
theorem x_motAt {X : Cx} {Γ : Gm} {o : Option Own} {e b : Expr} {pos pos' : Pos} {n : Nat} {p : Pos} {mot : List PV} {z : Int} (h : PX X e Γ o (is X.K mot)) (hb : PX X b Γ o (is X.K z)) (h0 : 0 ≤ z) (h1 : z < mot.length) (hs : PlainIx b := by intro _ _; rfl) : PX X (.Subscript (.Subscript e b pos) (.Constant (.int 0) n p) pos') Γ o (is X.K (pvAt mot z)) :=
  x2a (xLv h hb (ixN_in h0 h1) (mot_get (i := z.toNat) (by omega)) hs)
theorem sc__law_held : FnScope ["_law_box_here", "_law_places", "_law_place"] ["_law_box_here", "_law_places"] (defScope st__law_held) := ⟨rfl, rfl, rfl, by decide +kernel, rfl, by decide +kernel, by decide +kernel⟩
abbrev v__law_held (l_box_here : Box) (l_places : List (Pt)) : Bool := lheld l_box_here l_places
theorem ok__law_held {P : Program} {w : World} {K : Fg} {mg : Str → Option Value} {base : Heap} (T : Tx w K mg) : Fok P w K mg base 2 "_law_held" ["_law_box_here", "_law_places"] (spF (fun a : Box × List (Pt) => True) (fun a : Box × List (Pt) => [is K a.1, is K a.2]) fun a => is K (v__law_held a.1 a.2)) := by
  refine fokR T.fn__law_held T.glo__law_held (fun _ _ _ _ _ _ us hl => match us, hl with | [_, _], _ => rfl) sc__law_held (fun _ => rfl) fun cdv A outer s H E hr a hp => ?_
  obtain ⟨l_box_here, l_places⟩ := a
  have nd := sc__law_held.nd
  show SXs _ _ (as (G0 [is K l_box_here, is K l_places] _) none) _ _ _ (retV (is K (v__law_held l_box_here l_places)))
  refine sx_forS 2 nd l_places (fun k => ∀ (i : Nat) (z : Pt), i < k → l_places[i]? = some z → lin l_box_here z = true) (i_L (x_var 1 rfl)) (fun j z h => absurd h (Nat.not_lt_zero j)) (fun k a ha hk => ?_) (fun hk => ?_)
  · refine sx_ifx (t_not (t_val (c__law_in T (hr.mono (by decide)) (xs_cons (x_var 0 rfl) (xs_cons (x_var 2 rfl) xs_nil))))) (fun h => ?_) (fun h => ?_)
    · have h2 : lin l_box_here a = false := by
        have h3 : (!lin l_box_here a) = true := h
        simpa using h3
      exact sx_last (sx_retD x_bl (all_no (p := lin l_box_here) ha h2).symm)
    · have h2 : lin l_box_here a = true := by
        have h3 : (!lin l_box_here a) = false := h
        simpa using h3
      exact sx_endS1 (upto1 (p := lin l_box_here) ha h2 hk) rfl
  · exact sx_last (sx_retD x_bl (all_of (p := lin l_box_here) fun i z hz => hk i z (lt_of hz) hz).symm)
theorem c__law_held {X : Cx} {Γ : Gm} {o : Option Own} {e1 e2 : Expr} {p pos : Pos} {l_box_here : Box} {l_places : List (Pt)} (T : Tx X.w X.K X.mg) (hr : Room 2 X.A) (h : PAX X [e1, e2] Γ o [is X.K l_box_here, is X.K l_places]) (hg : Gl X "_law_held" := by rfl) (he : starEach [e1, e2] X.env = (false, eval e1 X.env) :: starEach [e2] X.env := by rfl) (hpl : (backTo pos (starEach [e2] X.env)).any (·.1) = false := by rfl) : PX X (.Call (.Name "_law_held" p) [e1, e2] [] pos) Γ o (is X.K (v__law_held l_box_here l_places)) := x_callF (ok__law_held T) hr (l_box_here, l_places) trivial h rfl hg (by decide) he hpl
theorem sc__law_course_holds : FnScope ["_law_contents", "_law_craft_here", "_law_motion_here", "_law_until", "_law_piece", "_law_places", "_law_at", "_law_part"] ["_law_contents", "_law_craft_here", "_law_motion_here", "_law_until"] (defScope st__law_course_holds) := ⟨rfl, rfl, rfl, by decide +kernel, rfl, by decide +kernel, by decide +kernel⟩
abbrev v__law_course_holds (l_contents : Conts) (l_craft_here : Craft) (l_motion_here : List (PV)) (l_until : Int) : Bool := courseHolds l_contents l_craft_here l_motion_here l_until
def p__law_course_holds (l_contents : Conts) (l_craft_here : Craft) (l_motion_here : List (PV)) (l_until : Int) : Prop := p_course l_contents l_craft_here l_until ∧ l_motion_here.length ≤ 500 ∧ (0 ≤ l_craft_here.start ∧ l_craft_here.start ≤ 2 ^ 40)
theorem ok__law_course_holds {P : Program} {w : World} {K : Fg} {mg : Str → Option Value} {base : Heap} (T : Tx w K mg) : Fok P w K mg base 7 "_law_course_holds" ["_law_contents", "_law_craft_here", "_law_motion_here", "_law_until"] (spF (fun a : Conts × Craft × List (PV) × Int => p__law_course_holds a.1 a.2.1 a.2.2.1 a.2.2.2) (fun a : Conts × Craft × List (PV) × Int => [is K a.1, is K a.2.1, is K a.2.2.1, is K a.2.2.2]) fun a => is K (v__law_course_holds a.1 a.2.1 a.2.2.1 a.2.2.2)) := by
  refine fokR T.fn__law_course_holds T.glo__law_course_holds (fun _ _ _ _ _ _ us hl => match us, hl with | [_, _, _, _], _ => rfl) sc__law_course_holds (fun _ => rfl) fun cdv A outer s H E hr a hp => ?_
  obtain ⟨l_contents, l_craft_here, l_motion_here, l_until⟩ := a
  have nd := sc__law_course_holds.nd
  have hp : p__law_course_holds l_contents l_craft_here l_motion_here l_until := hp
  show SXs _ _ (as (G0 [is K l_contents, is K l_craft_here, is K l_motion_here, is K l_until] _) none) _ _ _ (retV (is K (v__law_course_holds l_contents l_craft_here l_motion_here l_until)))
  obtain ⟨hc, hl, hs⟩ := hp
  have hok := course_ok (u := l_until) (c := l_craft_here) hc.2.1.2
  have ev : v__law_course_holds l_contents l_craft_here l_motion_here l_until = (course l_contents l_craft_here l_until).pieces.all (pieceHolds l_motion_here l_craft_here.start) := rfl
  refine sx_forU (ι := Unit) (course l_contents l_craft_here l_until).pieces (fun _ _ => []) (fun _ _ => none) (fun k _ => ∀ (i : Nat) (z : Piece), i < k → (course l_contents l_craft_here l_until).pieces[i]? = some z → pieceHolds l_motion_here l_craft_here.start z = true) () (i_L (f_Course_pieces T (c_course T (hr.mono (by decide)) (xs_cons (x_var 0 rfl) (xs_cons (x_var 1 rfl) (xs_cons (x_var 3 rfl) xs_nil))) hc))) (fun j z h => absurd h (Nat.not_lt_zero j)) (by walk_at "gle") rfl (fun k _ a ha hk => ?_) (fun _ hk => ?_)
  · obtain ⟨pb, pe, pl⟩ := hok a (List.mem_of_getElem? ha)
    refine ⟨_, [4], g_name 4 nd, no_own, ?_⟩
    show SXs _ _ (as [some (is K l_contents), some (is K l_craft_here), some (is K l_motion_here), some (is K l_until), some (is K a), none, none, none] none) _ _ _ _
    have ep : pieceHolds l_motion_here l_craft_here.start a = if a.e - l_craft_here.start < l_motion_here.length then a.parts.l.any fun x => lheld x (placesOf l_motion_here l_craft_here.start a) else true := rfl
    refine sx_last (sx_if (t_lt (x_sub (f_Piece_end T (x_var 4 rfl)) (f_Craft_start T (x_var 1 rfl))) (x_lenL T.free_len (xs_cons (x_var 2 rfl) xs_nil))) (fun h => ?_) (fun h => ?_))
    · have h := of_decide_eq_true h
      rw [if_pos h] at ep
      refine sx_cons (sx_set 5 nd (x_lc [("_law_at", 6)] (fun _ => true) (fun t : Int => pvAt l_motion_here (t - l_craft_here.start)) nd (i_rng2 T.free_range (xs_cons (f_Piece_begin T (x_var 4 rfl)) (xs_cons (x_add (f_Piece_end T (x_var 4 rfl)) x_int) xs_nil)) (by omega)) (by rw [rngL_len]; omega) no_own (blkOk_by (own := [("_law_at", 6)]) (N := ["_law_contents", "_law_craft_here", "_law_motion_here", "_law_until", "_law_piece", "_law_places", "_law_at", "_law_part"]) (sc := defScope st__law_course_holds) (by decide +kernel)) (fun t ht => ?_))) ?_
      · obtain ⟨i, hi, rfl⟩ := rng_mem ht
        exact ⟨_, [6], by decide, fun s H C cl fp => ⟨g_name 6 nd, ts_nil, fun _ => x_motAt (x_var 2 rfl) (x_sub (x_var 6 rfl) (f_Craft_start T (x_var 1 rfl))) (by omega) (by omega)⟩⟩
      · rw [filt_true]
        show SXs _ _ (as (List.set _ 5 (some (is K (placesOf l_motion_here l_craft_here.start a)))) none) _ _ _ _
        generalize placesOf l_motion_here l_craft_here.start a = places at ep ⊢
        rw [any_of_len] at ep
        refine sx_ifx (t_eq (x_sumL T.free_sum (xs_cons (PX.eq (x_lc [("_law_part", 7)] (fun x => lheld x places) (fun _ : Box => (1 : Int)) nd (i_T (f_Piece_parts T (x_var 4 rfl))) (show a.parts.l.length ≤ 1000 by omega) no_own (blkOk_by (own := [("_law_part", 7)]) (N := ["_law_contents", "_law_craft_here", "_law_motion_here", "_law_until", "_law_piece", "_law_places", "_law_at", "_law_part"]) (sc := defScope st__law_course_holds) (by decide +kernel)) (fun x hx => ⟨_, [7], by decide, fun s H C cl fp => ⟨g_name 7 nd, ts_one (t_val (c__law_held T (hr.mono (by decide)) (xs_cons (x_var 7 rfl) (xs_cons (x_var 5 rfl) xs_nil)))), fun _ => x_int⟩⟩)) rfl) xs_nil)) x_int) (fun h => ?_) (fun h => ?_)
        · have h := of_decide_eq_true h
          rw [sum_ones] at h
          rw [decide_eq_false (by omega)] at ep
          exact sx_last (sx_retD x_bl (ev.trans (all_no ha ep)).symm)
        · have h := of_decide_eq_false h
          rw [sum_ones] at h
          rw [decide_eq_true (by omega)] at ep
          exact sx_endU () (upto1 ha ep hk) (by walk_at "gle") rfl
    · rw [if_neg (of_decide_eq_false h)] at ep
      exact sx_endU () (upto1 ha ep hk) (by walk_at "gle") rfl
  · exact sx_last (sx_retD x_bl (ev.trans (all_of fun i z hz => hk i z (lt_of hz) hz)).symm)
theorem c__law_course_holds {X : Cx} {Γ : Gm} {o : Option Own} {e1 e2 e3 e4 : Expr} {p pos : Pos} {l_contents : Conts} {l_craft_here : Craft} {l_motion_here : List (PV)} {l_until : Int} (T : Tx X.w X.K X.mg) (hr : Room 7 X.A) (h : PAX X [e1, e2, e3, e4] Γ o [is X.K l_contents, is X.K l_craft_here, is X.K l_motion_here, is X.K l_until]) (hp : p__law_course_holds l_contents l_craft_here l_motion_here l_until) (hg : Gl X "_law_course_holds" := by rfl) (he : starEach [e1, e2, e3, e4] X.env = (false, eval e1 X.env) :: starEach [e2, e3, e4] X.env := by rfl) (hpl : (backTo pos (starEach [e2, e3, e4] X.env)).any (·.1) = false := by rfl) : PX X (.Call (.Name "_law_course_holds" p) [e1, e2, e3, e4] [] pos) Γ o (is X.K (v__law_course_holds l_contents l_craft_here l_motion_here l_until)) := x_callF (ok__law_course_holds T) hr (l_contents, l_craft_here, l_motion_here, l_until) hp h rfl hg (by decide) he hpl
theorem told_is (K : Fg) (t : Told) : ∃ L H, is K t = tupOf K [is K t.b, is K t.e, is K t.v, L, H] := ⟨_, _, rfl⟩
theorem mot_sm {mot : List PV} (h : MotOk mot) {z : Int} (h0 : 0 ≤ z) (h1 : z < mot.length) : Sm 60 (pvAt mot z).a ∧ Sm 60 (pvAt mot z).b ∧ Sm 60 (pvAt mot z).c := by
  have b := h.bn _ (List.mem_of_getElem? (mot_get (i := z.toNat) (by omega)))
  exact ⟨b.1.sm 60 (by decide), b.2.1.sm 60 (by decide), b.2.2.sm 60 (by decide)⟩
def dfAt (p q : Pt) (i : Nat) : Int := (ptAt p i - ptAt q i) * (ptAt p i - ptAt q i)
theorem pt_sm {n : Nat} {p : Pt} (h : Sm n p.a ∧ Sm n p.b ∧ Sm n p.c) (i : Nat) : Sm n (ptAt p i) := by
  match i with
  | 0 => exact h.1
  | 1 => exact h.2.1
  | i + 2 => exact h.2.2
theorem df_sum (p q : Pt) : (((rngL 0 3).filter fun _ => true).map fun j : Int => dfAt p q j.toNat).sum = sqd p q := by
  show (p.a - q.a) * (p.a - q.a) + ((p.b - q.b) * (p.b - q.b) + ((p.c - q.c) * (p.c - q.c) + 0)) = (p.a - q.a) * (p.a - q.a) + (p.b - q.b) * (p.b - q.b) + (p.c - q.c) * (p.c - q.c)
  omega
theorem sc__law_meeting_true : FnScope ["_law_contents", "_law_first", "_law_second", "_law_one", "_law_other", "_law_distance", "_law_low", "_law_end", "_law_begin", "_law_last", "_law_verdict", "_law_least", "_law_most", "_law_at", "_law_p", "_law_q", "_law_squares", "_law_k"] ["_law_contents", "_law_first", "_law_second", "_law_one", "_law_other", "_law_distance"] (defScope st__law_meeting_true) := ⟨rfl, rfl, rfl, by decide +kernel, rfl, by decide +kernel, by decide +kernel⟩
abbrev v__law_meeting_true (l_contents : Conts) (l_first : Craft) (l_second : Craft) (l_one : List (PV)) (l_other : List (PV)) (l_distance : Int) : Bool := meetingTrue l_contents l_first l_second l_one l_other l_distance
def p__law_meeting_true (l_contents : Conts) (l_first : Craft) (l_second : Craft) (l_one : List (PV)) (l_other : List (PV)) (l_distance : Int) : Prop := p_meeting l_contents l_first l_second (mLow l_first l_second) (mEnd l_first l_second l_one l_other) l_distance ∧ MotOk l_one ∧ MotOk l_other
theorem ok__law_meeting_true {P : Program} {w : World} {K : Fg} {mg : Str → Option Value} {base : Heap} (T : Tx w K mg) : Fok P w K mg base 9 "_law_meeting_true" ["_law_contents", "_law_first", "_law_second", "_law_one", "_law_other", "_law_distance"] (spF (fun a : Conts × Craft × Craft × List (PV) × List (PV) × Int => p__law_meeting_true a.1 a.2.1 a.2.2.1 a.2.2.2.1 a.2.2.2.2.1 a.2.2.2.2.2) (fun a : Conts × Craft × Craft × List (PV) × List (PV) × Int => [is K a.1, is K a.2.1, is K a.2.2.1, is K a.2.2.2.1, is K a.2.2.2.2.1, is K a.2.2.2.2.2]) fun a => is K (v__law_meeting_true a.1 a.2.1 a.2.2.1 a.2.2.2.1 a.2.2.2.2.1 a.2.2.2.2.2)) := by
  refine fokR T.fn__law_meeting_true T.glo__law_meeting_true (fun _ _ _ _ _ _ us hl => match us, hl with | [_, _, _, _, _, _], _ => rfl) sc__law_meeting_true (fun _ => rfl) fun cdv A outer s H E hr a hp => ?_
  obtain ⟨l_contents, l_first, l_second, l_one, l_other, l_distance⟩ := a
  have nd := sc__law_meeting_true.nd
  have hp : p__law_meeting_true l_contents l_first l_second l_one l_other l_distance := hp
  show SXs _ _ (as (G0 [is K l_contents, is K l_first, is K l_second, is K l_one, is K l_other, is K l_distance] _) none) _ _ _ (retV (is K (v__law_meeting_true l_contents l_first l_second l_one l_other l_distance)))
  obtain ⟨hm, m1, m2⟩ := hp
  have hd := hm.2
  have hs1 := hm.1.2.2.2.1
  have hs2 := hm.1.2.2.2.2.1
  have n1 := m1.len
  have n2 := m2.len
  have hlow : mLow l_first l_second = max l_first.start l_second.start := rfl
  have hend : mEnd l_first l_second l_one l_other = min (l_first.start + l_one.length) (l_second.start + l_other.length) - 1 := rfl
  have hin := meeting_in (k := l_contents) (a := l_first) (b := l_second) (lo := mLow l_first l_second) (hi := mEnd l_first l_second l_one l_other) (d := l_distance) (by unfold lowTick; omega)
  have ev : v__law_meeting_true l_contents l_first l_second l_one l_other l_distance = (meeting l_contents l_first l_second (mLow l_first l_second) (mEnd l_first l_second l_one l_other) l_distance).all (toldTrue l_first l_second l_one l_other l_distance) := rfl
  refine sx_cons (sx_set (P := is K (mLow l_first l_second)) 6 nd (x_max2 T.free_max (xs_cons (f_Craft_start T (x_var 1 rfl)) (xs_cons (f_Craft_start T (x_var 2 rfl)) xs_nil)))) ?_
  refine sx_cons (sx_set (P := is K (mEnd l_first l_second l_one l_other)) 7 nd (x_sub (x_min2 T.free_min (xs_cons (x_add (f_Craft_start T (x_var 1 rfl)) (x_lenL T.free_len (xs_cons (x_var 3 rfl) xs_nil))) (xs_cons (x_add (f_Craft_start T (x_var 2 rfl)) (x_lenL T.free_len (xs_cons (x_var 4 rfl) xs_nil))) xs_nil))) x_int)) ?_
  show SXs _ _ (as [some (is K l_contents), some (is K l_first), some (is K l_second), some (is K l_one), some (is K l_other), some (is K l_distance), some (is K (mLow l_first l_second)), some (is K (mEnd l_first l_second l_one l_other)), none, none, none, none, none, none, none, none, none, none] none) _ _ _ _
  generalize hL : mLow l_first l_second = lo at hm hlow hin ev ⊢
  generalize hE : mEnd l_first l_second l_one l_other = hi at hm hend hin ev ⊢
  refine sx_forU (ι := Unit) (meeting l_contents l_first l_second lo hi l_distance) (fun _ _ => []) (fun _ _ => none) (fun k _ => ∀ (i : Nat) (z : Told), i < k → (meeting l_contents l_first l_second lo hi l_distance)[i]? = some z → toldTrue l_first l_second l_one l_other l_distance z = true) () (i_L (c_meeting T (hr.mono (by decide)) (xs_cons (x_var 0 rfl) (xs_cons (x_var 1 rfl) (xs_cons (x_var 2 rfl) (xs_cons (x_var 6 rfl) (xs_cons (x_var 7 rfl) (xs_cons (x_var 5 rfl) xs_nil)))))) hm)) (fun j z h => absurd h (Nat.not_lt_zero j)) (by walk_at "gle") rfl (fun k _ a ha hk => ?_) (fun _ hk => ?_)
  · obtain ⟨pb, pe, ph⟩ := hin a (List.mem_of_getElem? ha)
    obtain ⟨Lw, Hw, eT⟩ := told_is K a
    refine ⟨_, _, pg_eq eT (g_tup rfl (gs_cons (g_name 8 nd) (gs_cons (g_name 9 nd) (gs_cons (g_name 10 nd) (gs_cons (g_name 11 nd) (gs_cons (g_name 12 nd) gs_nil))))) rfl), no_own, ?_⟩
    show SXs _ _ (as [some (is K l_contents), some (is K l_first), some (is K l_second), some (is K l_one), some (is K l_other), some (is K l_distance), some (is K lo), some (is K hi), some (is K a.b), some (is K a.e), some (is K a.v), some Lw, some Hw, none, none, none, none, none] none) _ _ _ _
    have et : toldTrue l_first l_second l_one l_other l_distance a = (placesOf.rng a.b a.e).all fun x => tickTrue a.v (sqd (pvAt l_one (x - l_first.start)) (pvAt l_other (x - l_second.start))) l_distance := rfl
    refine sx_forU (ι := Unit) (rngL a.b (a.e + 1 - a.b).toNat) (fun _ _ => []) (fun _ _ => none) (fun j _ => ∀ (i : Nat) (z : Int), i < j → (rngL a.b (a.e + 1 - a.b).toNat)[i]? = some z → tickTrue a.v (sqd (pvAt l_one (z - l_first.start)) (pvAt l_other (z - l_second.start))) l_distance = true) () (i_rng2 T.free_range (xs_cons (x_var 8 rfl) (xs_cons (x_add (x_var 9 rfl) x_int) xs_nil)) (by omega)) (fun j z h => absurd h (Nat.not_lt_zero j)) (by walk_at "gle") rfl (fun j _ x hx hj => ?_) (fun _ hj => ?_)
    · obtain ⟨i, hi2, e⟩ := rng_mem (List.mem_of_getElem? hx)
      have r1 : 0 ≤ x - l_first.start ∧ x - l_first.start < l_one.length := by omega
      have r2 : 0 ≤ x - l_second.start ∧ x - l_second.start < l_other.length := by omega
      refine ⟨_, [13], g_name 13 nd, no_own, ?_⟩
      refine sx_cons (sx_set 14 nd (x_motAt (x_var 3 rfl) (x_sub (x_var 13 rfl) (f_Craft_start T (x_var 1 rfl))) r1.1 r1.2)) ?_
      refine sx_cons (sx_set 15 nd (x_motAt (x_var 4 rfl) (x_sub (x_var 13 rfl) (f_Craft_start T (x_var 2 rfl))) r2.1 r2.2)) ?_
      have sp := mot_sm m1 r1.1 r1.2
      have sq := mot_sm m2 r2.1 r2.2
      have hu := upto1 (p := fun z : Int => tickTrue a.v (sqd (pvAt l_one (z - l_first.start)) (pvAt l_other (z - l_second.start))) l_distance) hx
      have hno := all_no (p := fun z : Int => tickTrue a.v (sqd (pvAt l_one (z - l_first.start)) (pvAt l_other (z - l_second.start))) l_distance) hx
      generalize pvAt l_one (x - l_first.start) = p at sp hu hno ⊢
      generalize pvAt l_other (x - l_second.start) = q at sq hu hno ⊢
      refine sx_cons (sx_set (P := is K (sqd p q)) 16 nd (PX.eq (x_sumL T.free_sum (xs_cons (PX.eq (x_lc [("_law_k", 17)] (fun _ => true) (fun j : Int => dfAt p q j.toNat) nd (i_rng1 T.free_range (xs_cons x_int xs_nil) (by decide)) (by decide) no_own (blkOk_by (own := [("_law_k", 17)]) (N := ["_law_contents", "_law_first", "_law_second", "_law_one", "_law_other", "_law_distance", "_law_low", "_law_end", "_law_begin", "_law_last", "_law_verdict", "_law_least", "_law_most", "_law_at", "_law_p", "_law_q", "_law_squares", "_law_k"]) (sc := defScope st__law_meeting_true) (by decide +kernel)) (fun y hy => ?_)) rfl) xs_nil)) ?_)) ?_
      · obtain ⟨i, hi, rfl⟩ := rng_mem hy
        have e : ((0 : Int) + (i : Int)).toNat = i := by omega
        refine ⟨_, [17], by decide, fun s H C cl fp => ⟨g_name 17 nd, ts_nil, fun _ => ?_⟩⟩
        rw [e]
        have sd : Sm 61 (ptAt p i - ptAt q i) := (pt_sm sp i).sub (pt_sm sq i)
        exact x_mul (x_sub (x3v (i := i) (x_var 14 rfl) (x_var 17 rfl) (by omega) (pt_at _ hi)) (x3v (i := i) (x_var 15 rfl) (x_var 17 rfl) (by omega) (pt_at _ hi))) (x_sub (x3v (i := i) (x_var 14 rfl) (x_var 17 rfl) (by omega) (pt_at _ hi)) (x3v (i := i) (x_var 15 rfl) (x_var 17 rfl) (by omega) (pt_at _ hi))) (sd.mulW sd)
      · exact congrArg (is K) (df_sum p q)
      show SXs _ _ (as [some (is K l_contents), some (is K l_first), some (is K l_second), some (is K l_one), some (is K l_other), some (is K l_distance), some (is K lo), some (is K hi), some (is K a.b), some (is K a.e), some (is K a.v), some Lw, some Hw, some (is K x), some (is K p), some (is K q), some (is K (sqd p q)), none] none) _ _ _ _
      generalize sqd p q = sqv at hu hno ⊢
      refine sx_ifx (t_w (w_or (t_eqS (x_var 10 rfl) x_str) fun _ => w_or1 (t_w (w_and (t_eqS (x_var 10 rfl) x_str) fun _ => w_and1 (t_le (x_var 16 rfl) (x_mul (x_var 5 rfl) (x_var 5 rfl) (hd.mulW hd))))))) (fun h => ?_) (fun h => ?_)
      · have h2 : tickTrue a.v sqv l_distance = false := by
          have h3 : (decide (a.v = "void") || (decide (a.v = "impossible") && decide (sqv ≤ l_distance * l_distance))) = true := h
          unfold tickTrue
          rw [h3]
          rfl
        exact sx_last (sx_retD x_bl (ev.trans (all_no ha (et.trans (hno h2)))).symm)
      · have h3 : (decide (a.v = "void") || (decide (a.v = "impossible") && decide (sqv ≤ l_distance * l_distance))) = false := h
        refine sx_ifx (t_w (w_and (t_eqS (x_var 10 rfl) x_str) fun _ => w_and1 (t_gt (x_var 16 rfl) (x_mul (x_var 5 rfl) (x_var 5 rfl) (hd.mulW hd))))) (fun h => ?_) (fun h => ?_)
        · have h2 : tickTrue a.v sqv l_distance = false := by
            have h4 : (decide (a.v = "certain") && decide (l_distance * l_distance < sqv)) = true := h
            unfold tickTrue
            rw [h3, h4]
            rfl
          exact sx_last (sx_retD x_bl (ev.trans (all_no ha (et.trans (hno h2)))).symm)
        · have h2 : tickTrue a.v sqv l_distance = true := by
            have h4 : (decide (a.v = "certain") && decide (l_distance * l_distance < sqv)) = false := h
            unfold tickTrue
            rw [h3, h4]
            rfl
          exact sx_endU () (hu h2 hj) (by walk_at "gle") rfl
    · have h2 : toldTrue l_first l_second l_one l_other l_distance a = true := et.trans (all_of fun i z hz => hj i z (lt_of hz) hz)
      exact sx_endU () (upto1 ha h2 hk) (by walk_at "gle") rfl
  · exact sx_last (sx_retD x_bl (ev.trans (all_of fun i z hz => hk i z (lt_of hz) hz)).symm)
theorem c__law_meeting_true {X : Cx} {Γ : Gm} {o : Option Own} {e1 e2 e3 e4 e5 e6 : Expr} {p pos : Pos} {l_contents : Conts} {l_first : Craft} {l_second : Craft} {l_one : List (PV)} {l_other : List (PV)} {l_distance : Int} (T : Tx X.w X.K X.mg) (hr : Room 9 X.A) (h : PAX X [e1, e2, e3, e4, e5, e6] Γ o [is X.K l_contents, is X.K l_first, is X.K l_second, is X.K l_one, is X.K l_other, is X.K l_distance]) (hp : p__law_meeting_true l_contents l_first l_second l_one l_other l_distance) (hg : Gl X "_law_meeting_true" := by rfl) (he : starEach [e1, e2, e3, e4, e5, e6] X.env = (false, eval e1 X.env) :: starEach [e2, e3, e4, e5, e6] X.env := by rfl) (hpl : (backTo pos (starEach [e2, e3, e4, e5, e6] X.env)).any (·.1) = false := by rfl) : PX X (.Call (.Name "_law_meeting_true" p) [e1, e2, e3, e4, e5, e6] [] pos) Γ o (is X.K (v__law_meeting_true l_contents l_first l_second l_one l_other l_distance)) := x_callF (ok__law_meeting_true T) hr (l_contents, l_first, l_second, l_one, l_other, l_distance) hp h rfl hg (by decide) he hpl
end Or
set_option maxHeartbeats 400000
namespace Or
open PySem PySem.Spec PyProof.Rows L2 L3
local macro_rules | `(tactic| walk_at "gle") => `(tactic| (repeat (first | exact GLe.nil | refine GLe.keep ?_ | refine GLe.drop ?_)))
theorem wide3_in (d : Int) : 0 ≤ pick ([0, 4, 90] : List Int) (d / 12 % 3) 0 ∧ pick ([0, 4, 90] : List Int) (d / 12 % 3) 0 ≤ 400 := pick_in (lo := 0) (hi := 400) (by
    intro x hx
    simp only [List.mem_cons, List.mem_nil_iff, or_false] at hx
    omega) (md0 _ (by decide)) (md1 _ (by decide))
theorem bit_in (d : Int) : 0 ≤ d / 36 % 2 ∧ d / 36 % 2 ≤ 3 := by
  have q1 := md0 (d / 36) (y := 2) (by decide)
  have q2 := md1 (d / 36) (y := 2) (by decide)
  omega
theorem pv_bn {mot : List PV} (h : MotOk mot) {z : Int} (h0 : 0 ≤ z) (h1 : z < mot.length) : bndP (10 ^ 15 - 1000) (pvAt mot z) := h.bn _ (List.mem_of_getElem? (mot_get (i := z.toNat) (by omega)))
theorem sc__law_seen_edit : FnScope ["_law_craft_here", "_law_motion_here", "_law_row_here", "_law_k", "_law_wide", "_law_box_here", "_law_c"] ["_law_craft_here", "_law_motion_here", "_law_row_here"] (defScope st__law_seen_edit) := ⟨rfl, rfl, rfl, by decide +kernel, rfl, by decide +kernel, by decide +kernel⟩
abbrev v__law_seen_edit (l_craft_here : Craft) (l_motion_here : List (PV)) (l_row_here : Int) : Edit := seenEdit l_craft_here l_motion_here l_row_here
def p__law_seen_edit (l_craft_here : Craft) (l_motion_here : List (PV)) (l_row_here : Int) : Prop := MotOk l_motion_here ∧ (0 ≤ l_craft_here.start ∧ l_craft_here.start ≤ 1000)
theorem ok__law_seen_edit {P : Program} {w : World} {K : Fg} {mg : Str → Option Value} {base : Heap} (T : Tx w K mg) : Fok P w K mg base 4 "_law_seen_edit" ["_law_craft_here", "_law_motion_here", "_law_row_here"] (spF (fun a : Craft × List (PV) × Int => p__law_seen_edit a.1 a.2.1 a.2.2) (fun a : Craft × List (PV) × Int => [is K a.1, is K a.2.1, is K a.2.2]) fun a => is K (v__law_seen_edit a.1 a.2.1 a.2.2)) := by
  refine fokR T.fn__law_seen_edit T.glo__law_seen_edit (fun _ _ _ _ _ _ us hl => match us, hl with | [_, _, _], _ => rfl) sc__law_seen_edit (fun _ => rfl) fun cdv A outer s H E hr a hp => ?_
  obtain ⟨l_craft_here, l_motion_here, l_row_here⟩ := a
  have nd := sc__law_seen_edit.nd
  have hp : p__law_seen_edit l_craft_here l_motion_here l_row_here := hp
  show SXs _ _ (as (G0 [is K l_craft_here, is K l_motion_here, is K l_row_here] _) none) _ _ _ (retV (is K (v__law_seen_edit l_craft_here l_motion_here l_row_here)))
  obtain ⟨hm, hs⟩ := hp
  have hl := hm.len
  have hpos := hm.pos
  have k0 := md0 l_row_here (y := (l_motion_here.length : Int)) (by omega)
  have k1 := md1 l_row_here (y := (l_motion_here.length : Int)) (by omega)
  have hb := pv_bn hm k0 k1
  have ev : v__law_seen_edit l_craft_here l_motion_here l_row_here = .addSight l_craft_here.name ⟨l_craft_here.start + l_row_here % l_motion_here.length, aroundP (pvAt l_motion_here (l_row_here % l_motion_here.length)) (pick [0, 4, 90] (l_row_here / 12 % 3) 0) (l_row_here / 36 % 2)⟩ := rfl
  refine sx_cons (sx_set 3 nd (x_mod (x_var 2 rfl) (x_lenL T.free_len (xs_cons (x_var 1 rfl) xs_nil)) (by omega))) ?_
  refine sx_cons (sx_set (P := is K (pick [0, 4, 90] (l_row_here / 12 % 3) 0)) 4 nd (x_pick (l := [0, 4, 90]) 0 (PX.eq (x_lst (xs_cons x_int (xs_cons x_int (xs_cons x_int xs_nil)))) rfl) (x_mod (x_div (x_var 2 rfl) x_int (dv (by decide) (by decide))) x_int (by decide)) (md0 _ (by decide)) (md1 _ (by decide)))) ?_
  have hin := around_in hb (wide3_in l_row_here).1 (wide3_in l_row_here).2 (bit_in l_row_here).1 (bit_in l_row_here).2
  generalize hk : l_row_here % (l_motion_here.length : Int) = k at k0 k1 hb ev hin ⊢
  refine sx_cons (sx_set (P := is K (aroundP (pvAt l_motion_here k) (pick [0, 4, 90] (l_row_here / 12 % 3) 0) (l_row_here / 36 % 2))) 5 nd (PX.eq (x_tupL T.free_tuple (xs_cons (x_lc [("_law_c", 6)] (fun _ => true) (fun c : Int => (⟨c - pick [0, 4, 90] (l_row_here / 12 % 3) 0, c + pick [0, 4, 90] (l_row_here / 12 % 3) 0 + l_row_here / 36 % 2⟩ : Iv)) nd (i_3 (x_motAt (x_var 1 rfl) (x_var 3 rfl) k0 k1)) (show 3 ≤ 1000 by decide) no_own (blkOk_by (own := [("_law_c", 6)]) (N := ["_law_craft_here", "_law_motion_here", "_law_row_here", "_law_k", "_law_wide", "_law_box_here", "_law_c"]) (sc := defScope st__law_seen_edit) (by decide +kernel)) (fun a ha => ⟨_, [6], by decide, fun s H C cl fp => ⟨g_name 6 nd, ts_nil, fun _ => x_t2 (xs_cons (x_sub (x_var 6 rfl) (x_var 4 rfl)) (xs_cons (x_add (x_add (x_var 6 rfl) (x_var 4 rfl)) (x_mod (x_div (x_var 2 rfl) x_int (dv (by decide) (by decide))) x_int (by decide))) xs_nil))⟩⟩)) xs_nil)) rfl)) ?_
  exact sx_last (sx_retD (x := Edit.addSight l_craft_here.name ⟨l_craft_here.start + k, aroundP (pvAt l_motion_here k) (pick [0, 4, 90] (l_row_here / 12 % 3) 0) (l_row_here / 36 % 2)⟩) (PX.eq (x_t3 (xs_cons x_str (xs_cons (f_Craft_name T (x_var 0 rfl)) (xs_cons (c_Sighting T (hr.mono (by decide)) (xs_cons (x_add (f_Craft_start T (x_var 0 rfl)) (x_var 3 rfl)) (xs_cons (x_var 5 rfl) xs_nil)) ⟨⟨by omega, by omega⟩, hin⟩) xs_nil)))) rfl) ev.symm)
theorem c__law_seen_edit {X : Cx} {Γ : Gm} {o : Option Own} {e1 e2 e3 : Expr} {p pos : Pos} {l_craft_here : Craft} {l_motion_here : List (PV)} {l_row_here : Int} (T : Tx X.w X.K X.mg) (hr : Room 4 X.A) (h : PAX X [e1, e2, e3] Γ o [is X.K l_craft_here, is X.K l_motion_here, is X.K l_row_here]) (hp : p__law_seen_edit l_craft_here l_motion_here l_row_here) (hg : Gl X "_law_seen_edit" := by rfl) (he : starEach [e1, e2, e3] X.env = (false, eval e1 X.env) :: starEach [e2, e3] X.env := by rfl) (hpl : (backTo pos (starEach [e2, e3] X.env)).any (·.1) = false := by rfl) : PX X (.Call (.Name "_law_seen_edit" p) [e1, e2, e3] [] pos) Γ o (is X.K (v__law_seen_edit l_craft_here l_motion_here l_row_here)) := x_callF (ok__law_seen_edit T) hr (l_craft_here, l_motion_here, l_row_here) hp h rfl hg (by decide) he hpl
theorem fnd_cases {k : Conts} (ha : (findC k.crafts.l "a").isSome = true) (hb : (findC k.crafts.l "b").isSome = true) (i : Int) (h0 : 0 ≤ i) (h1 : i < 2) : (findC k.crafts.l (nmOf i)).isSome = true := by
  have e : i = 0 ∨ i = 1 := by omega
  rcases e with e | e <;> subst e
  · exact ha
  · exact hb
theorem sc__law_edit : FnScope ["_law_contents", "_law_motions", "_law_drift", "_law_row_here", "_law_names", "_law_craft_here", "_law_kind", "_law_digits", "_law_place"] ["_law_contents", "_law_motions", "_law_drift", "_law_row_here"] (defScope st__law_edit) := ⟨rfl, rfl, rfl, by decide +kernel, rfl, by decide +kernel, by decide +kernel⟩
abbrev v__law_edit (l_contents : Conts) (l_motions : List (List (PV))) (l_drift : Int) (l_row_here : Int) : Edit := ledit l_contents (pick l_motions 0 []) (pick l_motions 1 []) l_drift l_row_here
def p__law_edit (l_contents : Conts) (l_motions : List (List (PV))) (l_drift : Int) (l_row_here : Int) : Prop := KV l_contents ∧ ((findC l_contents.crafts.l "a").isSome = true ∧ (findC l_contents.crafts.l "b").isSome = true) ∧ (l_motions.length = 2 ∧ ∀ m ∈ l_motions, MotOk m) ∧ ∀ c ∈ l_contents.crafts.l, c.start ≤ 1000
theorem ok__law_edit {P : Program} {w : World} {K : Fg} {mg : Str → Option Value} {base : Heap} (T : Tx w K mg) : Fok P w K mg base 5 "_law_edit" ["_law_contents", "_law_motions", "_law_drift", "_law_row_here"] (spF (fun a : Conts × List (List (PV)) × Int × Int => p__law_edit a.1 a.2.1 a.2.2.1 a.2.2.2) (fun a : Conts × List (List (PV)) × Int × Int => [is K a.1, is K a.2.1, is K a.2.2.1, is K a.2.2.2]) fun a => is K (v__law_edit a.1 a.2.1 a.2.2.1 a.2.2.2)) := by
  refine fokR T.fn__law_edit T.glo__law_edit (fun _ _ _ _ _ _ us hl => match us, hl with | [_, _, _, _], _ => rfl) sc__law_edit (fun _ => rfl) fun cdv A outer s H E hr a hp => ?_
  obtain ⟨l_contents, l_motions, l_drift, l_row_here⟩ := a
  have nd := sc__law_edit.nd
  have hp : p__law_edit l_contents l_motions l_drift l_row_here := hp
  show SXs _ _ (as (G0 [is K l_contents, is K l_motions, is K l_drift, is K l_row_here] _) none) _ _ _ (retV (is K (v__law_edit l_contents l_motions l_drift l_row_here)))
  obtain ⟨hk, ⟨fa, fb⟩, ⟨hl, hmo⟩, hst⟩ := hp
  have i0 := md0 l_row_here (y := 2) (by decide)
  have i1 := md1 l_row_here (y := 2) (by decide)
  have hf := fnd_cases fa fb _ i0 i1
  obtain ⟨hcv, _, hcm⟩ := craftOf_ok hk hf
  have hcs := hst _ hcm
  have em : pick [pick l_motions 0 [], pick l_motions 1 []] (l_row_here % 2) [] = pick l_motions (l_row_here % 2) [] := by
    match l_motions, hl with
    | [x, y], _ => rfl
  have hmm : MotOk (pick l_motions (l_row_here % 2) []) := hmo _ (List.mem_of_getElem? (pick_get [] i0 (by rw [hl]; exact i1)))
  have ev : v__law_edit l_contents l_motions l_drift l_row_here = if l_row_here / 2 % 9 < 3 then seenEdit (craftOf l_contents (nmOf (l_row_here % 2))) (pick [pick l_motions 0 [], pick l_motions 1 []] (l_row_here % 2) []) (l_row_here / 18)
    else if l_row_here / 2 % 9 = 3 ∧ 0 < (craftOf l_contents (nmOf (l_row_here % 2))).sights.l.length then .dropSight (craftOf l_contents (nmOf (l_row_here % 2))).name ((craftOf l_contents (nmOf (l_row_here % 2))).sights.l.getD (l_row_here / 18 % (craftOf l_contents (nmOf (l_row_here % 2))).sights.l.length).toNat ⟨0, nothing⟩).at_
    else if l_row_here / 2 % 9 = 4 then .setDrift (craftOf l_contents (nmOf (l_row_here % 2))).name (l_drift + l_row_here / 18 % 3)
    else if l_row_here / 2 % 9 = 5 then .setStride (1 + l_row_here / 18 % 4)
    else if l_row_here / 2 % 9 = 6 then .setFine (l_row_here / 18 % 3)
    else if l_row_here / 2 % 9 = 7 ∧ l_contents.crafts.l.length = 3 then .dropCraft "c"
    else .addCraft (newC (l_row_here / 18)) := rfl
  rw [em] at ev
  rw [ev]
  clear ev em
  refine sx_cons (sx_set (P := is K (["a", "b"] : List Str)) 4 nd (PX.eq (x_lst (xs_cons x_str (xs_cons x_str xs_nil))) rfl)) ?_
  refine sx_cons (sx_set (P := is K (craftOf l_contents (nmOf (l_row_here % 2)))) 5 nd (c_craft_of (name := nmOf (l_row_here % 2)) T (hr.mono (by decide)) (xs_cons (x_var 0 rfl) (xs_cons (x_pick (l := (["a", "b"] : List Str)) "" (x_var 4 rfl) (x_mod (x_var 3 rfl) x_int (by decide)) i0 i1) xs_nil)) hf)) ?_
  generalize craftOf l_contents (nmOf (l_row_here % 2)) = c at hcv hcs ⊢
  refine sx_cons (sx_set (P := is K (l_row_here / 2 % 9)) 6 nd (x_mod (x_div (x_var 3 rfl) x_int (dv (by decide) (by decide))) x_int (by decide))) ?_
  refine sx_cons (sx_set (P := is K (l_row_here / 18)) 7 nd (x_div (x_var 3 rfl) x_int (dv (by decide) (by decide)))) ?_
  show SXs _ _ (as [some (is K l_contents), some (is K l_motions), some (is K l_drift), some (is K l_row_here), some (is K (["a", "b"] : List Str)), some (is K c), some (is K (l_row_here / 2 % 9)), some (is K (l_row_here / 18)), none] none) _ _ _ _
  generalize l_row_here / 18 = d
  generalize l_row_here / 2 % 9 = kind
  refine sx_ifx (t_lt (x_var 6 rfl) x_int) (fun h => ?_) (fun h => ?_)
  · rw [if_pos (of_decide_eq_true h)]
    exact sx_last (sx_retD (c__law_seen_edit T (hr.mono (by decide)) (xs_cons (x_var 5 rfl) (xs_cons (x_pick [] (x_var 1 rfl) (x_mod (x_var 3 rfl) x_int (by decide)) i0 (by rw [hl]; exact i1)) (xs_cons (x_var 7 rfl) xs_nil))) ⟨hmm, hcv.s0, hcs⟩) rfl)
  rw [if_neg (of_decide_eq_false h)]
  refine sx_ifx (t_w (w_and (t_eq (x_var 6 rfl) x_int) fun _ => w_and1 (t_gt (x_lenT T.free_len (xs_cons (f_Craft_sightings T (x_var 5 rfl)) xs_nil)) x_int))) (fun h => ?_) (fun h => ?_)
  · obtain ⟨g1, g2⟩ := Bool.and_eq_true_iff.mp h
    have g1 := of_decide_eq_true g1
    have g2 : 0 < c.sights.l.length := by have := of_decide_eq_true g2; omega
    rw [if_pos ⟨g1, g2⟩]
    have q0 := md0 d (y := (c.sights.l.length : Int)) (by omega)
    have q1 := md1 d (y := (c.sights.l.length : Int)) (by omega)
    exact sx_last (sx_retD (x := Edit.dropSight c.name (c.sights.l.getD (d % c.sights.l.length).toNat ⟨0, nothing⟩).at_) (PX.eq (x_t3 (xs_cons x_str (xs_cons (f_Craft_name T (x_var 5 rfl)) (xs_cons (f_Sighting_at T (xTv (i := (d % c.sights.l.length).toNat) (f_Craft_sightings T (x_var 5 rfl)) (x_mod (x_var 7 rfl) (x_lenT T.free_len (xs_cons (f_Craft_sightings T (x_var 5 rfl)) xs_nil)) (by omega)) (by omega) (pick_get ⟨0, nothing⟩ q0 q1))) xs_nil)))) rfl) rfl)
  rw [if_neg (fun q => by
    have h2 : (decide (kind = 3) && decide ((c.sights.l.length : Int) > 0)) = false := h
    rw [decide_eq_true q.1, Bool.true_and] at h2
    exact of_decide_eq_false h2 (by have := q.2; omega))]
  refine sx_ifx (t_eq (x_var 6 rfl) x_int) (fun h => ?_) (fun h => ?_)
  · rw [if_pos (of_decide_eq_true h)]
    exact sx_last (sx_retD (x := Edit.setDrift c.name (l_drift + d % 3)) (PX.eq (x_t3 (xs_cons x_str (xs_cons (f_Craft_name T (x_var 5 rfl)) (xs_cons (x_add (x_var 2 rfl) (x_mod (x_var 7 rfl) x_int (by decide))) xs_nil)))) rfl) rfl)
  rw [if_neg (of_decide_eq_false h)]
  refine sx_ifx (t_eq (x_var 6 rfl) x_int) (fun h => ?_) (fun h => ?_)
  · rw [if_pos (of_decide_eq_true h)]
    exact sx_last (sx_retD (x := Edit.setStride (1 + d % 4)) (PX.eq (x_t2 (xs_cons x_str (xs_cons (x_add x_int (x_mod (x_var 7 rfl) x_int (by decide))) xs_nil))) rfl) rfl)
  rw [if_neg (of_decide_eq_false h)]
  refine sx_ifx (t_eq (x_var 6 rfl) x_int) (fun h => ?_) (fun h => ?_)
  · rw [if_pos (of_decide_eq_true h)]
    exact sx_last (sx_retD (x := Edit.setFine (d % 3)) (PX.eq (x_t2 (xs_cons x_str (xs_cons (x_mod (x_var 7 rfl) x_int (by decide)) xs_nil))) rfl) rfl)
  rw [if_neg (of_decide_eq_false h)]
  refine sx_ifx (t_w (w_and (t_eq (x_var 6 rfl) x_int) fun _ => w_and1 (t_eq (x_lenT T.free_len (xs_cons (f_Contents_crafts T (x_var 0 rfl)) xs_nil)) x_int))) (fun h => ?_) (fun h => ?_)
  · obtain ⟨g1, g2⟩ := Bool.and_eq_true_iff.mp h
    have g1 := of_decide_eq_true g1
    have g2 : l_contents.crafts.l.length = 3 := by have := of_decide_eq_true g2; omega
    rw [if_pos ⟨g1, g2⟩]
    exact sx_last (sx_retD (x := Edit.dropCraft "c") (PX.eq (x_t2 (xs_cons x_str (xs_cons x_str xs_nil))) rfl) rfl)
  rw [if_neg (fun q => by
    have h2 : (decide (kind = 7) && decide ((l_contents.crafts.l.length : Int) = 3)) = false := h
    rw [decide_eq_true q.1, Bool.true_and] at h2
    exact of_decide_eq_false h2 (by have := q.2; omega))]
  have hb1 : boxIn 309 (lbox d 300 9) := lbox_in (by decide) (by decide)
  have hb2 : boxIn 10 (lbox (d / 7) 9 1) := lbox_in (by decide) (by decide)
  have d0 := md0 d (y := 5) (by decide)
  have d1 := md1 d (y := 5) (by decide)
  have d2 := md0 d (y := 2) (by decide)
  have d3 := md1 d (y := 2) (by decide)
  refine sx_cons (sx_set 8 nd (c__law_box T (hr.mono (by decide)) (xs_cons (x_var 7 rfl) (xs_cons x_int (xs_cons x_int xs_nil))) ⟨⟨by decide, by decide⟩, ⟨by decide, by decide⟩⟩)) ?_
  exact sx_last (sx_retD (x := Edit.addCraft (newC d)) (PX.eq (x_t2 (xs_cons x_str (xs_cons (c_Craft0 T (hr.mono (by decide)) (xs_cons x_str (xs_cons (x_mod (x_var 7 rfl) x_int (by decide)) (xs_cons (x_var 8 rfl) (xs_cons (c__law_box T (hr.mono (by decide)) (xs_cons (x_div (x_var 7 rfl) x_int (dv (by decide) (by decide))) (xs_cons x_int (xs_cons x_int xs_nil))) ⟨⟨by decide, by decide⟩, ⟨by decide, by decide⟩⟩) (xs_cons (x_mod (x_var 7 rfl) x_int (by decide)) xs_nil))))) ⟨.inr (.inr rfl), ⟨by omega, by omega⟩, hb1.mono (by decide), hb2.mono (by decide), ⟨by omega, by show d % 2 ≤ 10 ^ 12; omega⟩⟩) xs_nil))) rfl) rfl)
theorem c__law_edit {X : Cx} {Γ : Gm} {o : Option Own} {e1 e2 e3 e4 : Expr} {p pos : Pos} {l_contents : Conts} {l_motions : List (List (PV))} {l_drift : Int} {l_row_here : Int} (T : Tx X.w X.K X.mg) (hr : Room 5 X.A) (h : PAX X [e1, e2, e3, e4] Γ o [is X.K l_contents, is X.K l_motions, is X.K l_drift, is X.K l_row_here]) (hp : p__law_edit l_contents l_motions l_drift l_row_here) (hg : Gl X "_law_edit" := by rfl) (he : starEach [e1, e2, e3, e4] X.env = (false, eval e1 X.env) :: starEach [e2, e3, e4] X.env := by rfl) (hpl : (backTo pos (starEach [e2, e3, e4] X.env)).any (·.1) = false := by rfl) : PX X (.Call (.Name "_law_edit" p) [e1, e2, e3, e4] [] pos) Γ o (is X.K (v__law_edit l_contents l_motions l_drift l_row_here)) := x_callF (ok__law_edit T) hr (l_contents, l_motions, l_drift, l_row_here) hp h rfl hg (by decide) he hpl
end Or
set_option maxHeartbeats 400000
/-! Intervals and boxes hold what they should. -/
namespace Or
open PySem L2 L3
def Hv (a : Iv) (n : Int) : Prop := a.a ≤ n ∧ n ≤ a.b
theorem has_iff {a : Iv} {n : Int} : Iv.has a n = true ↔ Hv a n := by
  unfold Iv.has Hv
  rw [Bool.and_eq_true, decide_eq_true_eq, decide_eq_true_eq]
def HB (x : Box) (p : Pt) : Prop := Hv x.a p.a ∧ Hv x.b p.b ∧ Hv x.c p.c
theorem hb_iff {x : Box} {p : Pt} : Box.has x p = true ↔ HB x p := by
  unfold Box.has HB
  rw [Bool.and_eq_true, Bool.and_eq_true, has_iff, has_iff, has_iff]
theorem Hv.iv {a : Iv} {n : Int} (h : Hv a n) : IV a := Int.le_trans h.1 h.2
theorem Hv.add {a b : Iv} {m n : Int} (h : Hv a m) (g : Hv b n) : Hv (Iv.add a b) (m + n) := by unfold Hv Iv.add at *; dsimp only; omega
theorem Hv.sub {a b : Iv} {m n : Int} (h : Hv a m) (g : Hv b n) : Hv (Iv.sub a b) (m - n) := by unfold Hv Iv.sub at *; dsimp only; omega
theorem Hv.widened {a : Iv} {m n w : Int} (h : Hv a m) (g : bnd w n) : Hv (Iv.widened a w) (m + n) := by unfold Hv Iv.widened bnd at *; dsimp only; omega
theorem Hv.hullL {a b : Iv} {n : Int} (h : Hv a n) : Hv (Iv.hull a b) n := by unfold Hv Iv.hull at *; dsimp only; omega
theorem Hv.hullR {a b : Iv} {n : Int} (h : Hv b n) : Hv (Iv.hull a b) n := by unfold Hv Iv.hull at *; dsimp only; omega
theorem Hv.scaled {a : Iv} {m n : Int} (h : Hv a m) : Hv (Iv.scaled a n) (m * n) := by
  unfold Iv.scaled Hv at *
  split
  · exact ⟨Int.mul_le_mul_of_nonpos_right h.2 (by omega), Int.mul_le_mul_of_nonpos_right h.1 (by omega)⟩
  · exact ⟨Int.mul_le_mul_of_nonneg_right h.1 (by omega), Int.mul_le_mul_of_nonneg_right h.2 (by omega)⟩
/-- a product lies between the products of the ends -/
theorem mul_between {l h m n : Int} (h1 : l ≤ m) (h2 : m ≤ h) : min (l * n) (h * n) ≤ m * n ∧ m * n ≤ max (l * n) (h * n) := by
  by_cases q : 0 ≤ n
  · have a := Int.mul_le_mul_of_nonneg_right h1 q
    have b := Int.mul_le_mul_of_nonneg_right h2 q
    omega
  · have a := Int.mul_le_mul_of_nonpos_right h1 (show n ≤ 0 by omega)
    have b := Int.mul_le_mul_of_nonpos_right h2 (show n ≤ 0 by omega)
    omega
theorem Hv.mul {a b : Iv} {m n : Int} (h : Hv a m) (g : Hv b n) : Hv (Iv.mul a b) (m * n) := by
  have k1 := mul_between (n := n) h.1 h.2
  have k2 := mul_between (n := a.a) g.1 g.2
  have k3 := mul_between (n := a.b) g.1 g.2
  rw [Int.mul_comm b.a a.a, Int.mul_comm b.b a.a, Int.mul_comm n a.a] at k2
  rw [Int.mul_comm b.a a.b, Int.mul_comm b.b a.b, Int.mul_comm n a.b] at k3
  unfold Hv Iv.mul Iv.min4 Iv.max4
  dsimp only
  omega
theorem Hv.square {a : Iv} {m : Int} (h : Hv a m) : Hv (Iv.square a) (m * m) := by
  unfold Iv.square Hv at *
  split
  · exact ⟨sq_le (by omega) h.1, sq_le (by omega) h.2⟩
  · split
    · exact ⟨sq_le_neg (by omega) h.2, sq_le_neg (by omega) h.1⟩
    · refine ⟨sq_nn m, ?_⟩
      dsimp only
      by_cases q : 0 ≤ m
      · have := sq_le q h.2
        omega
      · have := sq_le_neg (show m ≤ 0 by omega) h.1
        omega
/-- a quotient lies between the quotients by the ends -/
theorem div_between {n d l h : Int} (hl : 0 < l) (h1 : l ≤ d) (h2 : d ≤ h) : min (n / l) (n / h) ≤ n / d ∧ n / d ≤ max (n / l) (n / h) := by
  have hd : 0 < d := by omega
  have hh : 0 < h := by omega
  by_cases q : 0 ≤ n
  · have a : n / d ≤ n / l := by
      rw [Int.le_ediv_iff_mul_le hl]
      have z : 0 ≤ n / d := Int.ediv_nonneg q (by omega)
      have w : n / d * l ≤ n / d * d := Int.mul_le_mul_of_nonneg_left h1 z
      have e : n / d * d ≤ n := Int.ediv_mul_le n (by omega)
      omega
    have b : n / h ≤ n / d := by
      rw [Int.le_ediv_iff_mul_le hd]
      have z : 0 ≤ n / h := Int.ediv_nonneg q (by omega)
      have w : n / h * d ≤ n / h * h := Int.mul_le_mul_of_nonneg_left h2 z
      have e : n / h * h ≤ n := Int.ediv_mul_le n (by omega)
      omega
    omega
  · have neg : ∀ {x : Int}, 0 < x → n / x < 0 := fun {x} hx => Int.ediv_neg_of_neg_of_pos (by omega) hx
    have a : n / l ≤ n / d := by
      rw [Int.le_ediv_iff_mul_le hd]
      have z := neg hl
      have w : n / l * d ≤ n / l * l := Int.mul_le_mul_of_nonpos_left (by omega) h1
      have e : n / l * l ≤ n := Int.ediv_mul_le n (by omega)
      omega
    have b : n / d ≤ n / h := by
      rw [Int.le_ediv_iff_mul_le hh]
      have z := neg hd
      have w : n / d * h ≤ n / d * d := Int.mul_le_mul_of_nonpos_left (by omega) h2
      have e : n / d * d ≤ n := Int.ediv_mul_le n (by omega)
      omega
    omega
theorem Hv.quot {a d : Iv} {m n : Int} (h : Hv a m) (g : Hv d n) (h1 : 0 < d.a) : Hv (Iv.quot a d) (m / n) := by
  have k1 := div_between (n := m) h1 g.1 g.2
  have hn : 0 < n := Int.lt_of_lt_of_le h1 g.1
  have hb : 0 < d.b := Int.lt_of_lt_of_le hn g.2
  have a1 : a.a / d.a ≤ m / d.a := Int.ediv_le_ediv h1 h.1
  have a2 : a.a / d.b ≤ m / d.b := Int.ediv_le_ediv hb h.1
  have b1 : m / d.a ≤ a.b / d.a := Int.ediv_le_ediv h1 h.2
  have b2 : m / d.b ≤ a.b / d.b := Int.ediv_le_ediv hb h.2
  unfold Hv Iv.quot
  dsimp only
  omega
theorem Hv.root {a : Iv} {n : Int} (h : Hv a n) (h0 : 0 ≤ n) : Hv (Iv.root a) (isq n) := ⟨isq_mono (by show 0 ≤ max a.a 0; omega) (by have := h.1; show max a.a 0 ≤ n; omega), isq_mono h0 h.2⟩
theorem Hv.meet {a b : Iv} {n : Int} (h : Hv a n) (g : Hv b n) : ∃ c, Iv.meet a b = some c ∧ Hv c n := by
  unfold Iv.meet
  unfold Hv at h g
  rw [if_neg (by omega)]
  exact ⟨_, rfl, by unfold Hv; dsimp only; omega⟩
theorem HB.bv {x : Box} {p : Pt} (h : HB x p) : BV x := ⟨h.1.iv, h.2.1.iv, h.2.2.iv⟩
theorem HB.add {x y : Box} {p q : Pt} (h : HB x p) (g : HB y q) : HB (Box.add x y) (addP p q) := ⟨h.1.add g.1, h.2.1.add g.2.1, h.2.2.add g.2.2⟩
theorem HB.widened {x : Box} {p q : Pt} {w : Int} (h : HB x p) (g : bndP w q) : HB (Box.widened x w) (addP p q) := ⟨h.1.widened g.1, h.2.1.widened g.2.1, h.2.2.widened g.2.2⟩
theorem HB.hullL {x y : Box} {p : Pt} (h : HB x p) : HB (Box.hull x y) p := ⟨h.1.hullL, h.2.1.hullL, h.2.2.hullL⟩
theorem HB.hullR {x y : Box} {p : Pt} (h : HB y p) : HB (Box.hull x y) p := ⟨h.1.hullR, h.2.1.hullR, h.2.2.hullR⟩
theorem HB.meet {x y : Box} {p : Pt} (h : HB x p) (g : HB y p) : ∃ z, Box.meet x y = some z ∧ HB z p := by
  obtain ⟨a, a1, a2⟩ := h.1.meet g.1
  obtain ⟨b, b1, b2⟩ := h.2.1.meet g.2.1
  obtain ⟨c, c1, c2⟩ := h.2.2.meet g.2.2
  refine ⟨⟨a, b, c⟩, ?_, a2, b2, c2⟩
  unfold Box.meet
  rw [a1, b1, c1]
theorem HB.sqlen {x : Box} {p : Pt} (h : HB x p) : Hv (Box.sqlen x) (sqOf p) := (h.1.square.add h.2.1.square).add h.2.2.square
theorem HB.at_ {x : Box} {p : Pt} (h : HB x p) (i : Nat) : Hv (Box.at_ x i) (match i with | 0 => p.a | 1 => p.b | _ => p.c) := by
  match i with
  | 0 => exact h.1
  | 1 => exact h.2.1
  | i + 2 => exact h.2.2
/-- the pull over a box holds the pull at each of its points -/
theorem pull_iv_has {b : Body} {x : Box} {p : Pt} (h : HB x p) (hs : ¬ (Box.sqlen x).a = 0) (i : Nat) (c : Int) (hc : Hv (Box.at_ x i) c) : Hv (pullIv b x i) (pullC b.mu b.obl p.c (sqOf p) (isq (sqOf p)) c (factor i)) := by
  have ps := sqlen_pos h.bv hs
  have pr := root_pos ps
  have pd := mul_pos' ps pr
  have pe := mul_pos' (mul_pos' ps ps) pd
  have hq := h.sqlen
  have hn : 0 ≤ sqOf p := by have := ps.1; have := hq.1; omega
  have hr := hq.root hn
  have hd := hq.mul hr
  have he := (hq.mul hq).mul hd
  have m1 := (hc.scaled (n := -b.mu)).quot hd (by omega)
  have hz := (h.2.2.square).scaled (n := 5)
  have hk := hq.scaled (n := factor i)
  have hb := (hc.mul (hz.sub hk)).scaled (n := b.obl)
  have m2 := hb.quot he (by omega)
  have hsum := m1.add m2
  have e1 : c * -b.mu = -b.mu * c := Int.mul_comm _ _
  have e2 : c * (p.c * p.c * 5 - sqOf p * factor i) * b.obl = b.obl * c * (5 * p.c * p.c - factor i * sqOf p) := by
    rw [Int.mul_comm (p.c * p.c) 5, ← Int.mul_assoc 5 p.c p.c, Int.mul_comm (sqOf p) (factor i), Int.mul_comm _ b.obl, Int.mul_assoc b.obl]
  have e3 : sqOf p * sqOf p * (sqOf p * isq (sqOf p)) = sqOf p * sqOf p * sqOf p * isq (sqOf p) := by rw [← Int.mul_assoc]
  rw [e1, e2, e3] at hsum
  exact hsum
theorem pull_has {b : Body} {x y : Box} {p : Pt} (h : HB x p) (e : pullOver b x = some y) : HB y (lpull b.mu b.obl p) := by
  unfold pullOver at e
  split at e
  · cases e
  · rename_i hs
    cases e
    exact ⟨pull_iv_has h hs 0 p.a h.1, pull_iv_has h hs 1 p.b h.2.1, pull_iv_has h hs 2 p.c h.2.2⟩
/-! states -/
def HS (s : State) (x : PV) : Prop := HB s.place x.a ∧ HB s.speed x.b
theorem hs_iff {s : State} {x : PV} : sHas s x.a x.b = true ↔ HS s x := by
  unfold sHas HS
  rw [Bool.and_eq_true, hb_iff, hb_iff]
/-- a step that the motion takes -/
def StepOk (b : Body) (push : Box) (drift : Int) (x y : PV) : Prop := ∃ p m : Pt, HB push p ∧ bndP drift m ∧ y.b = addP (addP (addP x.b (lpull b.mu b.obl x.a)) p) m ∧ y.a = addP x.a y.b
theorem bndP.le {A B : Int} {p : Pt} (h : bndP A p) (g : A ≤ B) : bndP B p := h.mono g
theorem step_has {b : Body} {s s' : State} {push : Box} {drift : Int} {x y : PV} (h : HS s x) (g : StepOk b push drift x y) (e : stepS b s push drift = some s') : HS s' y := by
  obtain ⟨p, m, g1, g2, g3, g4⟩ := g
  unfold stepS at e
  split at e
  · cases e
  · rename_i a ha
    split at e
    · cases e
    · cases e
      have hv : HB (newSpeed s a push drift) y.b := by
        rw [g3]
        exact ((h.2.add (pull_has h.1 ha)).add g1).widened g2
      refine ⟨?_, hv⟩
      rw [g4]
      exact h.1.add hv
theorem cut_has {s : State} {B : Box} {x : PV} (h : HS s x) (g : HB B x.a) : ∃ s', cutS s B = some s' ∧ HS s' x := by
  obtain ⟨z, z1, z2⟩ := h.1.meet g
  refine ⟨⟨z, s.speed⟩, ?_, z2, h.2⟩
  unfold cutS
  rw [z1]
theorem cutAll_has {l : List State} {B : Option Box} {x : PV} (h : ∃ s ∈ l, HS s x) (g : ∀ b, B = some b → HB b x.a) : ∃ s ∈ cutAll l B, HS s x := by
  obtain ⟨s, h1, h2⟩ := h
  cases B with
  | none => exact ⟨s, h1, h2⟩
  | some b =>
    obtain ⟨s', e1, e2⟩ := cut_has h2 (g b rfl)
    exact ⟨s', List.mem_filterMap.mpr ⟨s, h1, e1⟩, e2⟩
theorem stepL_has {b : Body} {push : Box} {drift : Int} {x y : PV} (g : StepOk b push drift x y) : ∀ {l r : List State}, stepL b push drift l = some r → (∃ s ∈ l, HS s x) → ∃ s ∈ r, HS s y
  | [], r, e, h => by
    obtain ⟨s, h1, _⟩ := h
    cases h1
  | s :: l, r, e, h => by
    unfold stepL at e
    split at e
    · cases e
    · rename_i s' e1
      cases q : stepL b push drift l with
      | none => rw [q] at e; cases e
      | some r' =>
        rw [q] at e
        cases e
        obtain ⟨t, h1, h2⟩ := h
        rcases List.mem_cons.mp h1 with h1 | h1
        · rw [h1] at h2
          exact ⟨s', List.mem_cons_self, step_has h2 g e1⟩
        · obtain ⟨u, u1, u2⟩ := stepL_has g q ⟨t, h1, h2⟩
          exact ⟨u, List.mem_cons_of_mem _ u1, u2⟩
/-! the parts of a state -/
theorem put_has {x : Box} {p : Pt} {k : Nat} (h : HB x p) {i : Iv} (hi : Hv i (match k with | 0 => p.a | 1 => p.b | _ => p.c)) (hk : k < 3) : HB (Box.put x (k : Int) i) p := by
  match k, hk with
  | 0, _ => exact ⟨hi, h.2.1, h.2.2⟩
  | 1, _ => exact ⟨h.1, hi, h.2.2⟩
  | 2, _ => exact ⟨h.1, h.2.1, hi⟩
def pvC (x : PV) : Nat → Int
  | 0 => x.a.a
  | 1 => x.a.b
  | 2 => x.a.c
  | 3 => x.b.a
  | 4 => x.b.b
  | _ => x.b.c
theorem ivs_has {s : State} {x : PV} (h : HS s x) {k : Nat} (hk : k < 6) : Hv (s.ivs.getD k ⟨0, 0⟩) (pvC x k) := by
  match k, hk with
  | 0, _ => exact h.1.1
  | 1, _ => exact h.1.2.1
  | 2, _ => exact h.1.2.2
  | 3, _ => exact h.2.1
  | 4, _ => exact h.2.2.1
  | 5, _ => exact h.2.2.2
theorem half_has {s : State} {x : PV} (h : HS s x) {k : Nat} (hk : k < 6) {i : Iv} (hi : Hv i (pvC x k)) : HS (half s k i) x := by
  match k, hk with
  | 0, _ => exact ⟨⟨hi, h.1.2.1, h.1.2.2⟩, h.2⟩
  | 1, _ => exact ⟨⟨h.1.1, hi, h.1.2.2⟩, h.2⟩
  | 2, _ => exact ⟨⟨h.1.1, h.1.2.1, hi⟩, h.2⟩
  | 3, _ => exact ⟨h.1, ⟨hi, h.2.2.1, h.2.2.2⟩⟩
  | 4, _ => exact ⟨h.1, ⟨h.2.1, hi, h.2.2.2⟩⟩
  | 5, _ => exact ⟨h.1, ⟨h.2.1, h.2.2.1, hi⟩⟩
theorem split_has {s : State} {x : PV} (h : HS s x) : ∃ s' ∈ split s, HS s' x := by
  unfold split
  dsimp only
  have hk : widest s.ivs 5 < 6 := by have := widest_lt s.ivs 5; omega
  generalize widest s.ivs 5 = k at hk ⊢
  have hi := ivs_has h hk
  generalize s.ivs.getD k ⟨0, 0⟩ = a at hi ⊢
  split
  · exact ⟨s, List.mem_cons_self, h⟩
  · by_cases q : pvC x k ≤ Iv.middle a
    · exact ⟨_, List.mem_cons_self, half_has h hk ⟨hi.1, q⟩⟩
    · exact ⟨_, List.mem_cons_of_mem _ List.mem_cons_self, half_has h hk ⟨by show Iv.middle a + 1 ≤ _; omega, hi.2⟩⟩
theorem parts_has {s : State} {x : PV} (h : HS s x) : ∀ n, ∃ s' ∈ partsOf s n, HS s' x
  | 0 => ⟨s, List.mem_cons_self, h⟩
  | n + 1 => by
    obtain ⟨t, t1, t2⟩ := parts_has h n
    obtain ⟨u, u1, u2⟩ := split_has t2
    exact ⟨u, List.mem_flatMap.mpr ⟨t, t1, u1⟩, u2⟩
end Or
set_option maxHeartbeats 400000
/-! A motion that obeys a craft is held by its journeys, meetings, certificates, courses. -/
namespace Or
open PySem L2 L3
structure Obeys (b : Body) (c : Craft) (mot : List PV) : Prop where
  pos : 0 < mot.length
  init : ∀ x, mot[0]? = some x → HS ⟨c.place, c.speed⟩ x
  step : ∀ (k : Nat) (x y : PV), mot[k]? = some x → mot[k + 1]? = some y → StepOk b (pushAt c (c.start + (k : Int))) c.drift x y
  seen : ∀ (k : Nat) (x : PV) (B : Box), mot[k]? = some x → sightAt c (c.start + (k : Int)) = some B → HB B x.a
/-- a set of states that holds a point -/
def Has (l : List State) (x : PV) : Prop := ∃ s ∈ l, HS s x
theorem first_has {b : Body} {c : Craft} {mot : List PV} (h : Obeys b c mot) {fine : Int} {x : PV} (hx : mot[0]? = some x) : Has (firstStates fine c) x :=
  cutAll_has (parts_has (h.init x hx) _) fun B e => h.seen 0 x B hx (by show sightAt c (c.start + 0) = some B; rw [Int.add_zero]; exact e)
/-- what a journey's moments hold: the i-th is at start + i -/
def MomsOk (c : Craft) (mot : List PV) (ms : List Moment) : Prop := ∀ (i : Nat) (m : Moment), ms[i]? = some m → m.at_ = c.start + (i : Int) ∧ ∀ x, mot[i]? = some x → Has m.states x
theorem moms_app {c : Craft} {mot : List PV} {ms : List Moment} {m : Moment} (h : MomsOk c mot ms) (g1 : m.at_ = c.start + (ms.length : Int)) (g2 : ∀ x, mot[ms.length]? = some x → Has m.states x) : MomsOk c mot (ms ++ [m]) := by
  intro i z hz
  by_cases q : i < ms.length
  · rw [List.getElem?_append_left q] at hz
    exact h i z hz
  · rw [List.getElem?_append_right (by omega)] at hz
    by_cases q2 : i - ms.length = 0
    · rw [q2] at hz
      have e : m = z := by simpa using hz
      have e2 : i = ms.length := by omega
      subst e e2
      exact ⟨g1, g2⟩
    · obtain ⟨j, hj⟩ : ∃ j, i - ms.length = j + 1 := ⟨i - ms.length - 1, by omega⟩
      rw [hj] at hz
      simp at hz
/-- how a journey ends -/
structure JOk (c : Craft) (mot : List PV) (n : Nat) (j : Journey) : Prop where
  moms : MomsOk c mot j.moments
  novoid : j.ending ≠ "void"
  whole : j.ending ≠ "lost" → j.moments.length = n + 1
theorem journeyGo_has {b : Body} {c : Craft} {mot : List PV} (h : Obeys b c mot) : ∀ (n k : Nat) (ms : List Moment) (cur : Moment), k + n < mot.length → MomsOk c mot ms → ms.length = k + 1 → ms[k]? = some cur → JOk c mot (k + n) (journeyGo b c n (c.start + 1 + (k : Int)) ms cur)
  | 0, k, ms, cur, hk, hm, hl, hc => ⟨hm, by show ("whole" : Str) ≠ "void"; decide, fun _ => hl⟩
  | n + 1, k, ms, cur, hk, hm, hl, hc => by
    obtain ⟨c1, c2⟩ := hm k cur hc
    have hx := List.getElem?_eq_getElem (show k < mot.length by omega)
    have hy := List.getElem?_eq_getElem (show k + 1 < mot.length by omega)
    have et : c.start + 1 + (k : Int) = c.start + ((k + 1 : Nat) : Int) := by omega
    unfold journeyGo
    split
    · exact ⟨hm, by show ("lost" : Str) ≠ "void"; decide, fun q => absurd rfl q⟩
    · rename_i st e
      have hs : Has st mot[k + 1] := by
        have g := h.step k _ _ hx hy
        rw [← c1] at g
        exact stepL_has g e (c2 _ hx)
      have hc2 : Has (cutAll st (sightAt c (c.start + 1 + (k : Int)))) mot[k + 1] := by
        rw [et]
        exact cutAll_has hs fun B q => h.seen (k + 1) _ B hy q
      split
      · rename_i z
        obtain ⟨s, s1, _⟩ := hc2
        rw [List.length_eq_zero_iff.mp z] at s1
        cases s1
      · have e2 : c.start + 1 + (k : Int) + 1 = c.start + 1 + ((k + 1 : Nat) : Int) := by omega
        rw [e2]
        have e3 : k + (n + 1) = k + 1 + n := by omega
        rw [e3]
        refine journeyGo_has h n (k + 1) _ _ (by omega) (moms_app hm (by rw [hl]; exact et) fun x hx2 => ?_) (by rw [List.length_append, hl]; rfl) ?_
        · rw [hl, hy] at hx2
          cases hx2
          exact hc2
        · rw [List.getElem?_append_right (by omega), hl, Nat.sub_self]
          rfl
theorem journey_has {b : Body} {c : Craft} {mot : List PV} (h : Obeys b c mot) {fine u : Int} (h0 : c.start ≤ u) (h1 : u - c.start < mot.length) : JOk c mot (u - c.start).toNat (journey b fine c u) := by
  have hp := h.pos
  have hx := List.getElem?_eq_getElem hp
  have hf := first_has h (fine := fine) hx
  unfold journey
  rw [if_neg (by omega)]
  split
  · rename_i z
    obtain ⟨s, s1, _⟩ := hf
    rw [List.length_eq_zero_iff.mp z] at s1
    cases s1
  · have e := journeyGo_has h (u - c.start).toNat 0 [⟨c.start, firstStates fine c⟩] ⟨c.start, firstStates fine c⟩ (by omega) (fun i m hm => ?_) rfl rfl
    · have e2 : c.start + 1 + ((0 : Nat) : Int) = c.start + 1 := by omega
      rw [e2, Nat.zero_add] at e
      exact e
    · match i with
      | 0 =>
        have em : (⟨c.start, firstStates fine c⟩ : Moment) = m := by simpa using hm
        subst em
        refine ⟨by show c.start = c.start + ((0 : Nat) : Int); omega, fun x hx2 => ?_⟩
        rw [hx] at hx2
        cases hx2
        exact hf
      | i + 1 => simp at hm
/-- the moment at a tick -/
theorem at_has {c : Craft} {mot : List PV} {n : Nat} {j : Journey} (h : JOk c mot n j) {t : Int} {m : Moment} (e : j.at_ t = some m) (h0 : c.start ≤ t) (h1 : t - c.start < mot.length) : ∃ x, mot[(t - c.start).toNat]? = some x ∧ Has m.states x := by
  have hm := at_mem e
  have ht : m.at_ = t := of_decide_eq_true (List.find?_some (p := fun m : Moment => decide (m.at_ = t)) e)
  obtain ⟨i, hi, ei⟩ := List.mem_iff_getElem.mp hm
  obtain ⟨g1, g2⟩ := h.moms i m (by rw [List.getElem?_eq_getElem hi, ei])
  have e2 : i = (t - c.start).toNat := by omega
  have hx := List.getElem?_eq_getElem (show (t - c.start).toNat < mot.length by omega)
  exact ⟨_, hx, g2 _ (by subst e2; exact hx)⟩
/-! ### meetings -/
theorem foldl_hull_init {n : Int} : ∀ (l : List Iv) (q : Iv), Hv q n → Hv (l.foldl Iv.hull q) n
  | [], q, h => h
  | a :: l, q, h => foldl_hull_init l _ h.hullL
theorem foldl_hull_has {n : Int} : ∀ (l : List Iv) (q a : Iv), a ∈ l → Hv a n → Hv (l.foldl Iv.hull q) n
  | b :: l, q, a, h, g => by
    rcases List.mem_cons.mp h with h | h
    · subst h
      exact foldl_hull_init l _ g.hullR
    · exact foldl_hull_has l _ a h g
def subP (p q : Pt) : Pt := ⟨p.a - q.a, p.b - q.b, p.c - q.c⟩
theorem HB.sub {x y : Box} {p q : Pt} (h : HB x p) (g : HB y q) : HB (Box.sub x y) (subP p q) := ⟨h.1.sub g.1, h.2.1.sub g.2.1, h.2.2.sub g.2.2⟩
theorem gap_has {a b : Moment} {x y : PV} (h : Has a.states x) (g : Has b.states y) : Hv (gap a b) (sqd x.a y.a) := by
  obtain ⟨s, s1, s2⟩ := h
  obtain ⟨t, t1, t2⟩ := g
  unfold gap
  refine foldl_hull_has _ _ (Box.sqlen (Box.sub s.place t.place)) ?_ (s2.1.sub t2.1).sqlen
  exact List.mem_flatMap.mpr ⟨s, s1, List.mem_map.mpr ⟨t, t1, rfl⟩⟩
/-- what a row tells of a tick -/
structure RT (a b : Craft) (one other : List PV) (r : Row) : Prop where
  q : ∀ q, r.sq = some q → Hv q (sqd (pvAt one (r.at_ - a.start)) (pvAt other (r.at_ - b.start)))
  w : r.sq = none → r.wd ≠ "void"
  x : r.sq = none → isWord r.wd
theorem pv_get {mot : List PV} {z : Int} {x : PV} (h : mot[z.toNat]? = some x) : pvAt mot z = x.a := by
  unfold pvAt
  rw [List.getD_eq_getElem?_getD, h]
  rfl
theorem row_true {k : Conts} {a b : Craft} {one other : List PV} (h1 : Obeys k.body a one) (h2 : Obeys k.body b other) {e t : Int} (e1 : e - a.start < one.length) (e2 : e - b.start < other.length) (t1 : a.start ≤ t) (t2 : b.start ≤ t) (t3 : t ≤ e) :
    RT a b one other (tickRow (journey k.body k.fine a e) (journey k.body k.fine b e) t) := by
  have j1 := journey_has h1 (fine := k.fine) (u := e) (by omega) e1
  have j2 := journey_has h2 (fine := k.fine) (u := e) (by omega) e2
  unfold tickRow
  split
  · rename_i h g q1 q2
    refine ⟨fun q e3 => ?_, fun e3 => (nomatch e3), fun e3 => (nomatch e3)⟩
    cases e3
    obtain ⟨x, x1, x2⟩ := at_has j1 q1 t1 (by omega)
    obtain ⟨y, y1, y2⟩ := at_has j2 q2 t2 (by omega)
    show Hv (gap h g) (sqd (pvAt one (t - a.start)) (pvAt other (t - b.start)))
    rw [pv_get x1, pv_get y1]
    exact gap_has x2 y2
  · refine ⟨fun q e3 => (nomatch e3), fun _ => ?_, fun _ => broken_cases _ _ _⟩
    show brokenWord _ _ t ≠ "void"
    have n1 : brk (journey k.body k.fine a e) t = false := by unfold brk; rw [decide_eq_false j1.novoid, Bool.and_false]
    have n2 : brk (journey k.body k.fine b e) t = false := by unfold brk; rw [decide_eq_false j2.novoid, Bool.and_false]
    unfold brokenWord
    rw [n1, n2]
    decide
/-- every tick of a span has a row of its verdict -/
def SpRows (d : Int) (rows : List Row) (s : Span) : Prop := ∀ t, s.b ≤ t → t ≤ s.e → ∃ r ∈ rows, r.at_ = t ∧ r.verdict d = s.v
theorem SpRows.mono {d : Int} {rows rows' : List Row} {s : Span} (h : SpRows d rows s) (g : ∀ r ∈ rows, r ∈ rows') : SpRows d rows' s := fun t h1 h2 => let ⟨r, a, b⟩ := h t h1 h2; ⟨r, g r a, b⟩
/-- rows laid one behind another from lo -/
def RowsAt (lo : Int) (rows : List Row) : Prop := ∀ (i : Nat) (r : Row), rows[i]? = some r → r.at_ = lo + (i : Int)
theorem addRow_rows {d : Int} {rows : List Row} {l : List Span} {r : Row} (h : ∀ s ∈ l, SpRows d rows s) (hr : r ∈ rows) (hl : ∀ s, l.getLast? = some s → s.e + 1 = r.at_) : ∀ s ∈ addRow d l r, SpRows d rows s := by
  have one : SpRows d rows ⟨r.at_, r.at_, r.verdict d, r.sq⟩ := fun t h1 h2 => ⟨r, hr, by
    have h1 : r.at_ ≤ t := h1
    have h2 : t ≤ r.at_ := h2
    omega, rfl⟩
  intro s hs
  unfold addRow at hs
  split at hs
  · rename_i s0 e0
    split at hs
    · rename_i ev
      rcases List.mem_or_eq_of_mem_set hs with hs | hs
      · exact h s hs
      · rw [hs]
        intro t h1 h2
        by_cases q : t ≤ s0.e
        · obtain ⟨z, z1, z2, z3⟩ := h s0 (List.mem_of_getLast? e0) t h1 q
          exact ⟨z, z1, z2, z3.trans ev⟩
        · have h2 : t ≤ r.at_ := h2
          have := hl s0 e0
          exact ⟨r, hr, by omega, rfl⟩
    · rcases List.mem_append.mp hs with hs | hs
      · exact h s hs
      · rw [List.mem_singleton.mp hs]; exact one
  · rcases List.mem_append.mp hs with hs | hs
    · exact h s hs
    · rw [List.mem_singleton.mp hs]; exact one
theorem addRow_last {d : Int} {l : List Span} {r : Row} : ∃ s, (addRow d l r).getLast? = some s ∧ s.e = r.at_ := by
  unfold addRow
  split
  · rename_i s0 e0
    split
    · obtain ⟨n, hn, _⟩ := last_get e0
      refine ⟨⟨s0.b, r.at_, r.verdict d, hullO s0.sq r.sq⟩, ?_, rfl⟩
      rw [List.getLast?_eq_getElem?, List.length_set, List.getElem?_set_self (by omega)]
    · exact ⟨_, by rw [List.getLast?_append]; rfl, rfl⟩
  · exact ⟨_, by rw [List.getLast?_append]; rfl, rfl⟩
theorem spans_rows {d lo : Int} {all : List Row} : ∀ (rows : List Row) (l : List Span) (t : Int), (∀ r ∈ rows, r ∈ all) → (∀ (i : Nat) (r : Row), rows[i]? = some r → r.at_ = t + (i : Int) + 1) → (∀ s ∈ l, SpRows d all s) → (∀ s, l.getLast? = some s → s.e = t) → ∀ s ∈ rows.foldl (addRow d) l, SpRows d all s
  | [], l, t, _, _, h, _ => h
  | r :: rows, l, t, hm, ha, h, hl => by
    have g1 := ha 0 r rfl
    have a := addRow_rows (d := d) (l := l) h (hm r List.mem_cons_self) fun s e => by have := hl s e; omega
    obtain ⟨s1, e1, e2⟩ := addRow_last (d := d) (l := l) (r := r)
    refine spans_rows (lo := lo) rows _ r.at_ (fun z hz => hm z (List.mem_cons_of_mem _ hz)) (fun i z hz => ?_) a fun s e => ?_
    · have := ha (i + 1) z (by simpa using hz)
      omega
    · rw [e1] at e
      cases e
      exact e2
theorem verdict_true {r : Row} {a b : Craft} {one other : List PV} (h : RT a b one other r) (d : Int) : tickTrue (r.verdict d) (sqd (pvAt one (r.at_ - a.start)) (pvAt other (r.at_ - b.start))) d = true := by
  generalize hq : sqd (pvAt one (r.at_ - a.start)) (pvAt other (r.at_ - b.start)) = sq
  cases e : r.sq with
  | none =>
    rw [rv_none e]
    have h1 := h.w e
    rcases h.x e with q | q
    · exact absurd q h1
    · rw [q]
      rfl
  | some q =>
    have hv := h.q q e
    rw [hq] at hv
    obtain ⟨v1, v2⟩ := hv
    rw [rv_some e]
    unfold verdictOf
    split
    · have e1 : decide (sq ≤ d * d) = false := decide_eq_false (by omega)
      unfold tickTrue
      rw [e1]
      rfl
    · split
      · have e1 : decide (d * d < sq) = false := decide_eq_false (by omega)
        unfold tickTrue
        rw [e1]
        rfl
      · rfl
theorem meeting_true {k : Conts} {a b : Craft} {one other : List PV} (h1 : Obeys k.body a one) (h2 : Obeys k.body b other) (d : Int) : meetingTrue k a b one other d = true := by
  unfold meetingTrue
  refine List.all_eq_true.mpr fun t ht => ?_
  have hlow : lowTick a b (mLow a b) = mLow a b := by unfold lowTick mLow; omega
  have e1 : mLow a b = max a.start b.start := rfl
  have e2 : mEnd a b one other = min (a.start + one.length) (b.start + other.length) - 1 := rfl
  obtain ⟨p1, p2, p3⟩ := meeting_in (k := k) (d := d) hlow t ht
  obtain ⟨s, hs, rfl⟩ := List.mem_map.mp ht
  have rws : ∀ (i : Nat) (r : Row), (ticksOf k a b (mLow a b) (mEnd a b one other))[i]? = some r → r = tickRow (journey k.body k.fine a (mEnd a b one other)) (journey k.body k.fine b (mEnd a b one other)) (mLow a b + (i : Int)) ∧ i < (mEnd a b one other + 1 - mLow a b).toNat := by
    intro i r hr
    unfold ticksOf at hr
    rw [List.getElem?_map, hlow] at hr
    by_cases hi2 : i < (mEnd a b one other + 1 - mLow a b).toNat
    · rw [List.getElem?_range hi2] at hr
      exact ⟨(Option.some.inj hr).symm, hi2⟩
    · rw [List.getElem?_eq_none (by simpa using hi2)] at hr
      cases hr
  have hsp := spans_rows (d := d) (lo := mLow a b) (all := ticksOf k a b (mLow a b) (mEnd a b one other)) (ticksOf k a b (mLow a b) (mEnd a b one other)) [] (mLow a b - 1) (fun r hr => hr) (fun i r hr => by
    obtain ⟨e, _⟩ := rws i r hr
    rw [e, row_at]
    omega) (fun s hs => nomatch hs) (fun s e => nomatch e) s hs
  show toldTrue a b one other d (told s) = true
  unfold toldTrue
  refine List.all_eq_true.mpr fun x hx => ?_
  obtain ⟨i, hi, e⟩ := List.mem_map.mp hx
  have hi := List.mem_range.mp hi
  have hb : s.b ≤ x := by have : (told s).b = s.b := rfl; omega
  have he : x ≤ s.e := by
    have q1 : (told s).b = s.b := rfl
    have q2 : (told s).e = s.e := rfl
    rw [q1] at hi e
    rw [q2] at hi
    omega
  obtain ⟨r, r1, r2, r3⟩ := hsp x hb he
  have hrt : RT a b one other r := by
    obtain ⟨j, hj, ej⟩ := List.mem_iff_getElem.mp r1
    obtain ⟨e3, hj2⟩ := rws j r (by rw [List.getElem?_eq_getElem hj, ej])
    rw [e3]
    exact row_true h1 h2 (by omega) (by omega) (by omega) (by omega) (by omega)
  have v := verdict_true hrt d
  rw [r2, r3] at v
  exact v
end Or
set_option maxHeartbeats 400000
/-! Courses and certificates hold a motion that obeys. -/
namespace Or
open PySem L2 L3
/-! ### courses -/
def RowHas (mot : List PV) (st : Int) (rows : List CRow) (bg t : Int) : Prop := ∃ r ∈ rows, (∀ x, mot[(t - st).toNat]? = some x → HS r.a x) ∧ ∀ s, bg ≤ s → s ≤ t → HB r.b (pvAt mot (s - st))
theorem piece_new {mot : List PV} {st bg t : Int} {rows : List CRow} (h : t - st < mot.length → RowHas mot st rows bg t) : pieceHolds mot st ⟨bg, t, ⟨rows.map (·.b)⟩⟩ = true := by
  unfold pieceHolds
  dsimp only
  split
  · rename_i q
    obtain ⟨r, r1, _, r3⟩ := h q
    refine List.any_eq_true.mpr ⟨r.b, List.mem_map.mpr ⟨r, r1, rfl⟩, ?_⟩
    refine List.all_eq_true.mpr fun p hp => ?_
    unfold placesOf placesOf.rng at hp
    rw [List.map_map] at hp
    obtain ⟨i, hi, rfl⟩ := List.mem_map.mp hp
    have hi := List.mem_range.mp hi
    refine hb_iff.mpr ?_
    exact r3 (bg + (i : Int)) (by omega) (by dsimp only at hi; omega)
  · rfl
theorem addPiece_holds {mot : List PV} {st bg stride t : Int} {ps : List Piece} {rows : List CRow} (h : ∀ p ∈ ps, pieceHolds mot st p = true) (g : t - st < mot.length → RowHas mot st rows bg t) : ∀ p ∈ addPiece ps rows bg stride t, pieceHolds mot st p = true := by
  intro p hp
  unfold addPiece at hp
  split at hp
  · rcases List.mem_append.mp hp with hp | hp
    · exact h p hp
    · rw [List.mem_singleton.mp hp]
      exact piece_new g
  · exact h p hp
theorem nextL_has {b : Body} {push : Box} {drift : Int} {box : Option Box} {x y : PV} (g : StepOk b push drift x y) (gb : ∀ B, box = some B → HB B y.a) : ∀ {l r : List CRow}, nextL b push drift box l = some r → ∀ z ∈ l, HS z.a x → ∃ z' ∈ r, HS z'.a y ∧ (∀ p, HB z.b p → HB z'.b p) ∧ HB z'.b y.a
  | [], r, _, z, hz, _ => nomatch hz
  | s :: l, r, e, z, hz, hx => by
    unfold nextL at e
    split at e
    · cases e
    · rename_i f ef
      cases q : nextL b push drift box l with
      | none => rw [q] at e; cases e
      | some r' =>
        rw [q] at e
        cases e
        rcases List.mem_cons.mp hz with hz | hz
        · subst hz
          have hf := step_has hx g ef
          cases box with
          | none => exact ⟨⟨f, Box.hull z.b f.place⟩, List.mem_append_left _ List.mem_cons_self, hf, fun p hp => hp.hullL, hf.1.hullR⟩
          | some B =>
            obtain ⟨f', f1, f2⟩ := cut_has hf (gb B rfl)
            refine ⟨⟨f', Box.hull z.b f'.place⟩, List.mem_append_left _ ?_, f2, fun p hp => hp.hullL, f2.1.hullR⟩
            show _ ∈ followRow (some B) z.b f
            unfold followRow
            dsimp only
            rw [f1]
            exact List.mem_cons_self
        · obtain ⟨z', z1, z2⟩ := nextL_has g gb q z hz hx
          exact ⟨z', List.mem_append_right _ z1, z2⟩
theorem next_has {b : Body} {c : Craft} {mot : List PV} (h : Obeys b c mot) {rows : List CRow} {bg t : Int} (hw : (nextRows b c t rows).b = "whole") (h0 : c.start ≤ t) (hr : t - c.start < mot.length → RowHas mot c.start rows bg t) (hl : t + 1 - c.start < mot.length) : RowHas mot c.start (nextRows b c t rows).a bg (t + 1) := by
  obtain ⟨r, r1, r2, r3⟩ := hr (by omega)
  have ek : (t + 1 - c.start).toNat = (t - c.start).toNat + 1 := by omega
  have hx := List.getElem?_eq_getElem (show (t - c.start).toNat < mot.length by omega)
  have hy := List.getElem?_eq_getElem (show (t - c.start).toNat + 1 < mot.length by omega)
  have et : c.start + ((t - c.start).toNat : Int) = t := by omega
  have et2 : c.start + (((t - c.start).toNat + 1 : Nat) : Int) = t + 1 := by omega
  have g := h.step _ _ _ hx hy
  rw [et] at g
  have gb : ∀ B, sightAt c (t + 1) = some B → HB B (mot[(t - c.start).toNat + 1]).a := fun B e => h.seen _ _ B hy (by rw [et2]; exact e)
  have hxr := r2 _ hx
  unfold nextRows at hw ⊢
  have key : ∀ l, nextL b (pushAt c t) c.drift (sightAt c (t + 1)) rows = some l → RowHas mot c.start l bg (t + 1) := by
    intro l e
    obtain ⟨z, z1, z2, z3, z4⟩ := nextL_has g gb e r r1 hxr
    refine ⟨z, z1, fun y hy2 => ?_, fun s h1 h2 => ?_⟩
    · rw [ek, hy] at hy2
      cases hy2
      exact z2
    · by_cases q : s ≤ t
      · exact z3 _ (r3 s h1 q)
      · have es : s = t + 1 := by omega
        rw [es, pv_get (x := mot[(t - c.start).toNat + 1]) (by rw [ek]; exact hy)]
        exact z4
  split at hw
  · exact absurd hw (by decide)
  · exact absurd hw (by decide)
  · rename_i q qs e
    exact key _ e
theorem restart_has {mot : List PV} {st bg t : Int} {rows : List CRow} (h : RowHas mot st rows bg t) (h0 : st ≤ t) (hl : t - st < mot.length) : RowHas mot st (restart rows) t t := by
  obtain ⟨r, r1, r2, _⟩ := h
  have hx := List.getElem?_eq_getElem (show (t - st).toNat < mot.length by omega)
  refine ⟨⟨r.a, r.a.place⟩, List.mem_map.mpr ⟨r, r1, rfl⟩, r2, fun s h1 h2 => ?_⟩
  have es : s = t := by omega
  rw [es, pv_get hx]
  exact (r2 _ hx).1
theorem courseGo_holds {b : Body} {c : Craft} {mot : List PV} (h : Obeys b c mot) {stride u : Int} : ∀ (n : Nat) (ps : List Piece) (rows : List CRow) (bg t : Int), c.start ≤ bg → bg ≤ t → (∀ p ∈ ps, pieceHolds mot c.start p = true) → (t - c.start < mot.length → RowHas mot c.start rows bg t) → ∀ p ∈ (courseGo b c stride u n ps rows bg t).pieces, pieceHolds mot c.start p = true
  | 0, ps, rows, bg, t, _, _, hp, _ => hp
  | n + 1, ps, rows, bg, t, h1, h2, hp, hr => by
    have a := addPiece_holds (stride := stride) hp hr
    unfold courseGo
    split
    · exact a
    · split
      · rename_i hw
        have nx := fun hl => next_has h hw (by omega) hr hl
        split
        · exact courseGo_holds h n _ _ _ _ (by omega) (Int.le_refl _) a fun hl => restart_has (nx hl) (by omega) hl
        · exact courseGo_holds h n _ _ _ _ h1 (by omega) a nx
      · exact a
theorem course_true {k : Conts} {c : Craft} {mot : List PV} (h : Obeys k.body c mot) (u : Int) : courseHolds k c mot u = true := by
  unfold courseHolds
  refine List.all_eq_true.mpr fun p hp => ?_
  unfold course at hp
  split at hp
  · cases hp
  · split at hp
    · cases hp
    · refine courseGo_holds h _ _ _ _ _ (Int.le_refl _) (Int.le_refl _) (fun p hp => absurd hp (by simp)) (fun _ => ?_) p hp
      have hx := List.getElem?_eq_getElem h.pos
      obtain ⟨s, s1, s2⟩ := first_has h (fine := k.fine) hx
      have e0 : (c.start - c.start).toNat = 0 := by omega
      refine ⟨⟨s, s.place⟩, List.mem_map.mpr ⟨s, s1, rfl⟩, fun x hx2 => ?_, fun t h1 h2 => ?_⟩
      · rw [e0, hx] at hx2
        cases hx2
        exact s2
      · have et : t = c.start := by omega
        rw [et, pv_get (x := mot[0]) (by rw [e0]; exact hx)]
        exact s2.1
/-! ### certificates -/
theorem inside_self (s : State) : sInside s s = true := by
  unfold sInside Box.inside Iv.inside
  simp
theorem held_mem {s : State} {l : List State} (h : s ∈ l) : held s l = true := List.any_eq_true.mpr ⟨s, h, inside_self s⟩
theorem stepL_each {b : Body} {push : Box} {drift : Int} : ∀ {l r : List State}, stepL b push drift l = some r → ∀ s ∈ l, ∃ f ∈ r, stepS b s push drift = some f
  | [], r, _, s, hs => by cases hs
  | a :: l, r, e, s, hs => by
    unfold stepL at e
    split at e
    · cases e
    · rename_i f ef
      cases q : stepL b push drift l with
      | none => rw [q] at e; cases e
      | some r' =>
        rw [q] at e
        cases e
        rcases List.mem_cons.mp hs with hs | hs
        · subst hs
          exact ⟨f, List.mem_cons_self, ef⟩
        · obtain ⟨f', f1, f2⟩ := stepL_each q s hs
          exact ⟨f', List.mem_cons_of_mem _ f1, f2⟩
/-- moments that follow from one another -/
structure Chain (b : Body) (c : Craft) (fine : Int) (ms : List Moment) : Prop where
  first : ∀ m, ms[0]? = some m → m.states = firstStates fine c
  at_ : ∀ (i : Nat) (m : Moment), ms[i]? = some m → m.at_ = c.start + (i : Int)
  next : ∀ (i : Nat) (m m' : Moment), ms[i]? = some m → ms[i + 1]? = some m' → ∃ st, stepAll b c m = some st ∧ m'.states = cutAll st (sightAt c (c.start + (i : Int) + 1))
theorem chain_app {b : Body} {c : Craft} {fine : Int} {ms : List Moment} {k : Nat} {cur m : Moment} {st : List State} (h : Chain b c fine ms) (hl : ms.length = k + 1) (hc : ms[k]? = some cur) (h1 : m.at_ = c.start + 1 + (k : Int)) (h2 : stepAll b c cur = some st) (h3 : m.states = cutAll st (sightAt c (c.start + 1 + (k : Int)))) : Chain b c fine (ms ++ [m]) := by
  have old : ∀ {i : Nat} {z : Moment}, (ms ++ [m])[i]? = some z → (i < ms.length ∧ ms[i]? = some z) ∨ (i = ms.length ∧ z = m) := by
    intro i z hz
    by_cases q : i < ms.length
    · rw [List.getElem?_append_left q] at hz
      exact .inl ⟨q, hz⟩
    · rw [List.getElem?_append_right (by omega)] at hz
      by_cases q2 : i - ms.length = 0
      · rw [q2] at hz
        have e : m = z := by simpa using hz
        exact .inr ⟨by omega, e.symm⟩
      · obtain ⟨j, hj⟩ : ∃ j, i - ms.length = j + 1 := ⟨i - ms.length - 1, by omega⟩
        rw [hj] at hz
        simp at hz
  refine ⟨fun z hz => ?_, fun i z hz => ?_, fun i z z' hz hz' => ?_⟩
  · rcases old hz with ⟨_, q⟩ | ⟨q, _⟩
    · exact h.first z q
    · omega
  · rcases old hz with ⟨_, q⟩ | ⟨q, e⟩
    · exact h.at_ i z q
    · rw [e, h1, q, hl]
      omega
  · rcases old hz' with ⟨q1, q⟩ | ⟨q, e⟩
    · rcases old hz with ⟨_, q2⟩ | ⟨q2, _⟩
      · exact h.next i z z' q2 q
      · omega
    · have ei : i = k := by omega
      rcases old hz with ⟨_, q2⟩ | ⟨q2, _⟩
      · rw [ei, hc] at q2
        cases q2
        refine ⟨st, h2, ?_⟩
        rw [e, h3, ei]
        congr 2
        omega
      · omega
theorem journeyGo_chain {b : Body} {c : Craft} {fine : Int} : ∀ (n k : Nat) (ms : List Moment) (cur : Moment), Chain b c fine ms → ms.length = k + 1 → ms[k]? = some cur → Chain b c fine (journeyGo b c n (c.start + 1 + (k : Int)) ms cur).moments
  | 0, k, ms, cur, h, _, _ => h
  | n + 1, k, ms, cur, h, hl, hc => by
    unfold journeyGo
    split
    · exact h
    · rename_i st e
      split
      · exact h
      · have e2 : c.start + 1 + (k : Int) + 1 = c.start + 1 + ((k + 1 : Nat) : Int) := by omega
        rw [e2]
        refine journeyGo_chain n (k + 1) _ _ (chain_app h hl hc rfl e rfl) (by rw [List.length_append, hl]; rfl) ?_
        rw [List.getElem?_append_right (by omega), hl, Nat.sub_self]
        rfl
theorem journey_chain {b : Body} {c : Craft} {fine u : Int} : Chain b c fine (journey b fine c u).moments := by
  have nil : Chain b c fine ([] : List Moment) := ⟨fun m h => (nomatch h), fun i m h => absurd h (by simp), fun i m m' h => absurd h (by simp)⟩
  unfold journey
  split
  · exact nil
  · split
    · exact nil
    · have e2 : c.start + 1 + ((0 : Nat) : Int) = c.start + 1 := by omega
      have g := journeyGo_chain (b := b) (c := c) (fine := fine) (u - c.start).toNat 0 [⟨c.start, firstStates fine c⟩] ⟨c.start, firstStates fine c⟩ ⟨fun m h => by
        have e : (⟨c.start, firstStates fine c⟩ : Moment) = m := by simpa using h
        subst e
        rfl, fun i m h => ?_, fun i m m' h h' => absurd h' (by simp)⟩ rfl rfl
      · rw [e2] at g
        exact g
      · match i with
        | 0 =>
          have e : (⟨c.start, firstStates fine c⟩ : Moment) = m := by simpa using h
          subst e
          show c.start = c.start + ((0 : Nat) : Int)
          omega
        | i + 1 => simp at h
theorem step_ok_of {cert : Cert} {m : Moment} {st later : List State} {t : Int} (ht : m.at_ = t) (h1 : stepAll cert.body cert.craft m = some st) (h2 : later = cutAll st (sightAt cert.craft (t + 1))) : stepHolds cert t m.states later = true := by
  unfold stepHolds
  refine List.all_eq_true.mpr fun s hs => ?_
  unfold stepAll at h1
  rw [ht] at h1
  obtain ⟨f, f1, f2⟩ := stepL_each h1 s hs
  rw [f2]
  show followHeld (sightAt cert.craft (t + 1)) later f = true
  unfold followHeld
  subst h2
  cases sightAt cert.craft (t + 1) with
  | none => exact held_mem f1
  | some B =>
    dsimp only
    cases e : cutS f B with
    | none => rfl
    | some g => exact held_mem (List.mem_filterMap.mpr ⟨f, f1, e⟩)
theorem refGo_none {cert : Cert} {claims : List (List State)} : ∀ (n k : Nat), (∀ i, i < k + n → stepHolds cert (cert.craft.start + (i : Int)) (claims.getD i []) (claims.getD (i + 1) []) = true) → refGo cert claims n k = none
  | 0, _, _ => rfl
  | n + 1, k, h => by
    unfold refGo
    rw [if_pos (h k (by omega))]
    exact refGo_none n (k + 1) fun i hi => h i (by omega)
theorem getD_map {ms : List Moment} {i : Nat} {m : Moment} (h : ms[i]? = some m) : (ms.map (·.states)).getD i [] = m.states := by
  rw [List.getD_eq_getElem?_getD, List.getElem?_map, h]
  rfl
theorem head_map {ms : List Moment} {m : Moment} (h : ms[0]? = some m) : (ms.map (·.states)).headD [] = m.states := by
  cases ms with
  | nil => simp at h
  | cons a l =>
    have e : a = m := by simpa using h
    rw [e]
    rfl
theorem refused_none {k : Conts} {c : Craft} {u : Int} (hp : 0 < (journey k.body k.fine c u).moments.length) : refusedAt (certOf k c (journey k.body k.fine c u)) = none := by
  have ch := journey_chain (b := k.body) (c := c) (fine := k.fine) (u := u)
  generalize journey k.body k.fine c u = j at ch hp
  have hx := List.getElem?_eq_getElem hp
  unfold refusedAt
  have hs : startHolds (certOf k c j) = true := by
    unfold startHolds
    refine List.all_eq_true.mpr fun s hs => held_mem ?_
    have e : (certOf k c j).claims.headD [] = firstStates k.fine c := by
      exact (head_map hx).trans (ch.first _ hx)
    rw [e]
    exact hs
  rw [if_pos hs]
  refine refGo_none _ 0 fun i hi => ?_
  have hl : (certOf k c j).claims.length = j.moments.length := List.length_map ..
  rw [hl] at hi
  have h1 := List.getElem?_eq_getElem (show i < j.moments.length by omega)
  have h2 := List.getElem?_eq_getElem (show i + 1 < j.moments.length by omega)
  obtain ⟨st, q1, q2⟩ := ch.next i _ _ h1 h2
  show stepHolds (certOf k c j) (c.start + (i : Int)) ((j.moments.map (·.states)).getD i []) ((j.moments.map (·.states)).getD (i + 1) []) = true
  rw [getD_map h1, getD_map h2]
  exact step_ok_of (cert := certOf k c j) (ch.at_ i _ h1) q1 q2
theorem paper_true {k : Conts} {c : Craft} {mot : List PV} (h : Obeys k.body c mot) {u : Int} (h0 : c.start ≤ u) (h1 : u - c.start < mot.length) : paperHolds k c mot u = true := by
  have jo := journey_has h (fine := k.fine) h0 h1
  unfold paperHolds
  dsimp only
  split
  · rfl
  · rename_i hn
    have hw := jo.whole hn
    rw [refused_none (by omega)]
    have hl : (certOf k c (journey k.body k.fine c u)).claims.length = (u - c.start).toNat + 1 := by
      show (List.map _ _).length = _
      rw [List.length_map, hw]
    rw [hl]
    have e : decide ((((u - c.start).toNat + 1 : Nat) : Int) ≠ u - c.start + 1) = false := decide_eq_false (by omega)
    rw [e]
    show claimsHold mot ((journey k.body k.fine c u).moments.map (·.states)) = true
    unfold claimsHold
    refine List.all_eq_true.mpr fun i hi => ?_
    have hi := List.mem_range.mp hi
    rw [List.length_map, hw] at hi
    have hm := List.getElem?_eq_getElem (show i < (journey k.body k.fine c u).moments.length by omega)
    obtain ⟨_, g⟩ := jo.moms i _ hm
    obtain ⟨s, s1, s2⟩ := g _ (mot_get (by omega))
    rw [getD_map hm]
    exact List.any_eq_true.mpr ⟨s, s1, hs_iff.mpr s2⟩
end Or
set_option maxHeartbeats 400000
/-! The two drawn craft obey their motions; the book keeps that. -/
namespace Or
open PySem L2 L3
/-! ### drawn motions -/
def MChain (m : Mv) (l : List PV) : Prop := ∀ (i : Nat) (x y : PV), l[i]? = some x → l[i + 1]? = some y → y = stepM m i x
theorem motGo_chain {m : Mv} : ∀ (n k : Nat) (l : List PV) (x : PV), l.length = k + 1 → l[k]? = some x → MChain m l → MChain m (motGo m n k l x)
  | 0, k, l, x, _, _, h => h
  | n + 1, k, l, x, hl, hx, h => by
    unfold motGo
    split
    · exact h
    · refine motGo_chain n (k + 1) _ _ (by rw [List.length_append, hl]; rfl) ?_ fun i y z hy hz => ?_
      · rw [List.getElem?_append_right (by omega), hl, Nat.sub_self]
        rfl
      · by_cases q : i + 1 < l.length
        · rw [List.getElem?_append_left q] at hz
          rw [List.getElem?_append_left (by omega)] at hy
          exact h i y z hy hz
        · by_cases q2 : i + 1 = l.length
          · rw [List.getElem?_append_left (by omega)] at hy
            rw [q2, List.getElem?_append_right (Nat.le_refl _), Nat.sub_self] at hz
            have ei : i = k := by omega
            rw [ei, hx] at hy
            cases hy
            have e : stepM m k x = z := by simpa using hz
            rw [← e, ei]
          · exfalso
            have := lt_of hz
            rw [List.length_append, List.length_singleton] at this
            omega
theorem motGo_first {m : Mv} : ∀ (n k : Nat) (l : List PV) (x y : PV), l[0]? = some y → (motGo m n k l x)[0]? = some y
  | 0, _, _, _, _, h => h
  | n + 1, k, l, x, y, h => by
    unfold motGo
    split
    · exact h
    · refine motGo_first n (k + 1) _ _ y ?_
      rw [List.getElem?_append_left (lt_of h)]
      exact h
theorem motion_chain {m : Mv} {place speed : Box} {many : Int} : MChain m (motion m place speed many) := motGo_chain _ 0 _ _ rfl rfl fun i x y hx hy => by
  have := lt_of hy
  simp at this
theorem motion_first {m : Mv} {place speed : Box} {many : Int} : (motion m place speed many)[0]? = some (mot0 m.s place speed) := motGo_first _ _ _ _ _ rfl
theorem stepM_ok {m : Mv} (h : MvOk m) {b : Body} (h1 : b.mu = m.mu) (h2 : b.obl = m.bulge) {push : Box} {k : Nat} (h3 : push = lpush m.burns (m.start + (k : Int))) (x : PV) : StepOk b push m.drift x (stepM m k x) := by
  refine ⟨member (lpush m.burns (m.start + (k : Int))) (lrow m.s (8 + (k : Int))), l3 (spread (lrow m.s (8 + (k : Int)) / 10 ^ 9) 3 m.drift), ?_, spread3_bnd h.d0, ?_, rfl⟩
  · rw [h3]
    exact hb_iff.mp (member_has (box_of (push_in h _)) _)
  · rw [h1, h2]
    rfl
theorem push_eq {l : List BT} {c : Craft} (h : c.burns.l = l.map toBurn) (t : Int) : pushAt c t = lpush l t := by
  unfold pushAt lpush
  rw [h]
  clear h
  induction l with
  | nil => rfl
  | cons u l ih =>
    rw [List.map_cons, List.find?_cons, List.find?_cons]
    have e : actB t (toBurn u) = actT t u := rfl
    rw [e]
    cases actT t u with
    | true => rfl
    | false => exact ih
/-! ### a craft of the book -/
structure CrOk (b : Body) (nm : Str) (d0 : Int) (mot : List PV) (n : Nat) (c : Craft) : Prop where
  nm : c.name = nm
  cv : CV c
  s1 : c.start ≤ 100
  init : ∀ x, mot[0]? = some x → HS ⟨c.place, c.speed⟩ x
  step : ∀ (k : Nat) (x y : PV), mot[k]? = some x → mot[k + 1]? = some y → StepOk b (pushAt c (c.start + (k : Int))) d0 x y
  dr : d0 ≤ c.drift
  seen : ∀ u ∈ c.sights.l, ∀ (k : Nat) (x : PV), u.at_ = c.start + (k : Int) → mot[k]? = some x → HB u.place x.a
  sl : c.sights.l.length ≤ n
theorem StepOk.more {b : Body} {push : Box} {d e : Int} {x y : PV} (h : StepOk b push d x y) (g : d ≤ e) : StepOk b push e x y := let ⟨p, m, a1, a2, a3, a4⟩ := h; ⟨p, m, a1, a2.mono g, a3, a4⟩
theorem CrOk.obeys {b : Body} {nm : Str} {d0 : Int} {mot : List PV} {n : Nat} {c : Craft} (h : CrOk b nm d0 mot n c) (hp : 0 < mot.length) : Obeys b c mot := by
  refine ⟨hp, h.init, fun k x y hx hy => (h.step k x y hx hy).more h.dr, fun k x B hx e => ?_⟩
  unfold sightAt at e
  cases q : c.sights.l.find? (seenAt (c.start + (k : Int))) with
  | none => rw [q] at e; cases e
  | some u =>
    rw [q] at e
    cases e
    exact h.seen u (List.mem_of_find?_eq_some q) k x (of_decide_eq_true (List.find?_some (p := seenAt (c.start + (k : Int))) q)) hx
theorem push_same {c : Craft} {d : Int} {s : Sq Sight} (t : Int) : pushAt (remade c d (.tp c.burns.l) s) t = pushAt c t := rfl
theorem remade_cv {c : Craft} (h : CV c) {d : Int} {s : Sq Sight} (h0 : 0 ≤ d) (h1 : d ≤ MOSTD) (h2 : ∀ u ∈ s.v, boxIn MOST u.place) (h3 : s.v.length ≤ 20) : CV (remade c d (.tp c.burns.l) s) := ⟨h.nm, h.s0, h.s1, h.pl, h.sp, h0, h1, h.bu, h.bl, h2, h3⟩
theorem CrOk.mono {b : Body} {nm : Str} {d0 : Int} {mot : List PV} {n m : Nat} {c : Craft} (h : CrOk b nm d0 mot n c) (g : n ≤ m) : CrOk b nm d0 mot m c := ⟨h.nm, h.cv, h.s1, h.init, h.step, h.dr, h.seen, Nat.le_trans h.sl g⟩
theorem CrOk.drift {b : Body} {nm : Str} {d0 : Int} {mot : List PV} {n : Nat} {c : Craft} (h : CrOk b nm d0 mot n c) {d : Int} (h0 : d0 ≤ d) (h1 : 0 ≤ d) (h2 : d ≤ MOSTD) : CrOk b nm d0 mot n (remade c d (.tp c.burns.l) (.tp c.sights.l)) :=
  ⟨h.nm, remade_cv h.cv h1 h2 h.cv.si h.cv.sl, h.s1, h.init, h.step, h0, h.seen, h.sl⟩
theorem putS_mem {c : Craft} {u v : Sight} (h : v ∈ putS c u) : v = u ∨ v ∈ c.sights.l := by
  unfold putS at h
  rcases List.mem_append.mp h with h | h
  · rcases List.mem_append.mp h with h | h
    · exact .inr (List.mem_filter.mp (List.mem_filter.mp h).1).1
    · exact .inl (List.mem_singleton.mp h)
  · exact .inr (List.mem_filter.mp (List.mem_filter.mp h).1).1
theorem two_filt {α : Type} {p q : α → Bool} (h : ∀ a, p a = true → q a = false) : ∀ l : List α, (l.filter p).length + (l.filter q).length ≤ l.length
  | [] => Nat.le_refl _
  | a :: l => by
    have ih := two_filt h l
    rw [List.filter_cons, List.filter_cons, List.length_cons]
    cases e : p a with
    | true =>
      rw [h a e, if_pos rfl, if_neg Bool.false_ne_true, List.length_cons]
      omega
    | false =>
      rw [if_neg Bool.false_ne_true]
      split
      · rw [List.length_cons]; omega
      · omega
theorem other_len {c : Craft} {t : Int} : (otherS c t).length ≤ c.sights.l.length := List.length_filter_le ..
theorem putS_len {c : Craft} {u : Sight} : (putS c u).length ≤ c.sights.l.length + 1 := by
  have h := two_filt (p := fun o : Sight => decide (o.at_ < u.at_)) (q := fun o : Sight => decide (o.at_ > u.at_)) (fun a e => decide_eq_false (by have := of_decide_eq_true e; omega)) (otherS c u.at_)
  have h2 := other_len (c := c) (t := u.at_)
  unfold putS
  rw [List.length_append, List.length_append, List.length_singleton]
  omega
theorem CrOk.add {b : Body} {nm : Str} {d0 : Int} {mot : List PV} {n : Nat} {c : Craft} (h : CrOk b nm d0 mot n c) (hn : n < 20) {u : Sight} (hb : boxIn MOST u.place) (hu : ∀ (k : Nat) (x : PV), u.at_ = c.start + (k : Int) → mot[k]? = some x → HB u.place x.a) : CrOk b nm d0 mot (n + 1) (remade c c.drift (.tp c.burns.l) (.ls (putS c u))) := by
  have hl := putS_len (c := c) (u := u)
  have hs := h.sl
  refine ⟨h.nm, remade_cv h.cv h.cv.d0 h.cv.d1 (fun v hv => ?_) (show (putS c u).length ≤ 20 by omega), h.s1, h.init, h.step, h.dr, fun v hv k x e hx => ?_, show (putS c u).length ≤ n + 1 by omega⟩
  · rcases putS_mem hv with e | hv
    · rw [e]; exact hb
    · exact h.cv.si v hv
  · rcases putS_mem hv with q | hv
    · rw [q] at e ⊢
      exact hu k x e hx
    · exact h.seen v hv k x e hx
theorem CrOk.dropS {b : Body} {nm : Str} {d0 : Int} {mot : List PV} {n : Nat} {c : Craft} (h : CrOk b nm d0 mot n c) (t : Int) : CrOk b nm d0 mot n (remade c c.drift (.tp c.burns.l) (.ls (otherS c t))) := by
  have hl := other_len (c := c) (t := t)
  have hs := h.sl
  have hc := h.cv.sl
  exact ⟨h.nm, remade_cv h.cv h.cv.d0 h.cv.d1 (fun v hv => h.cv.si v (List.mem_filter.mp hv).1) (show (otherS c t).length ≤ 20 by omega), h.s1, h.init, h.step, h.dr, fun v hv => h.seen v (List.mem_filter.mp hv).1, show (otherS c t).length ≤ n by omega⟩
end Or
set_option maxHeartbeats 400000
/-! The book keeps two craft that obey. -/
namespace Or
open PySem L2 L3
theorem ltab : strLt "a" "b" = true := by decide
theorem ltba : strLt "b" "a" = false := by decide
theorem ltac : strLt "a" "c" = true := by decide
theorem ltca : strLt "c" "a" = false := by decide
theorem ltbc : strLt "b" "c" = true := by decide
theorem ltcb : strLt "c" "b" = false := by decide
theorem ltaa : strLt "a" "a" = false := by decide
theorem ltbb : strLt "b" "b" = false := by decide
theorem ltcc : strLt "c" "c" = false := by decide
theorem neab : ¬ ("a" : Str) = "b" := by decide
theorem neac : ¬ ("a" : Str) = "c" := by decide
theorem neba : ¬ ("b" : Str) = "a" := by decide
theorem nebc : ¬ ("b" : Str) = "c" := by decide
theorem neca : ¬ ("c" : Str) = "a" := by decide
theorem necb : ¬ ("c" : Str) = "b" := by decide
def RestOk (rest : List Craft) : Prop := rest = [] ∨ ∃ cc, rest = [cc] ∧ cc.name = "c" ∧ CV cc ∧ cc.start ≤ 100
theorem put_a {ca cb t : Craft} {rest : List Craft} (ha : ca.name = "a") (hb : cb.name = "b") (ht : t.name = "a") (hr : RestOk rest) : putC (ca :: cb :: rest) t = t :: cb :: rest := by
  unfold putC
  rcases hr with rfl | ⟨cc, rfl, hc, _⟩
  · simp [List.filter_cons, ha, hb, ht, ltaa, ltba, ltab]
  · simp [List.filter_cons, ha, hb, ht, hc, ltaa, ltba, ltab, ltca, ltac]
theorem put_b {ca cb t : Craft} {rest : List Craft} (ha : ca.name = "a") (hb : cb.name = "b") (ht : t.name = "b") (hr : RestOk rest) : putC (ca :: cb :: rest) t = ca :: t :: rest := by
  unfold putC
  rcases hr with rfl | ⟨cc, rfl, hc, _⟩
  · simp [List.filter_cons, ha, hb, ht, ltbb, ltba, ltab]
  · simp [List.filter_cons, ha, hb, ht, hc, ltbb, ltba, ltab, ltcb, ltbc]
theorem put_c3 {ca cb t : Craft} {rest : List Craft} (ha : ca.name = "a") (hb : cb.name = "b") (ht : t.name = "c") (hr : RestOk rest) : putC (ca :: cb :: rest) t = ca :: cb :: [t] := by
  unfold putC
  rcases hr with rfl | ⟨cc, rfl, hc, _⟩
  · simp [List.filter_cons, ha, hb, ht, ltac, ltca, ltbc, ltcb]
  · simp [List.filter_cons, ha, hb, ht, hc, ltac, ltca, ltbc, ltcb, ltcc]
theorem drop_c {ca cb : Craft} {rest : List Craft} (ha : ca.name = "a") (hb : cb.name = "b") (hr : RestOk rest) : dropC (ca :: cb :: rest) "c" = ca :: cb :: [] := by
  unfold dropC
  rcases hr with rfl | ⟨cc, rfl, hc, _⟩
  · simp [List.filter_cons, ha, hb, neac, nebc]
  · simp [List.filter_cons, ha, hb, hc, neac, nebc]
theorem find_a {ca cb : Craft} {rest : List Craft} (ha : ca.name = "a") : findC (ca :: cb :: rest) "a" = some ca := by
  unfold findC nameEq
  simp [ha]
theorem find_b {ca cb : Craft} {rest : List Craft} (ha : ca.name = "a") (hb : cb.name = "b") : findC (ca :: cb :: rest) "b" = some cb := by
  unfold findC nameEq
  simp [ha, hb, neab]
theorem find_c {ca cb : Craft} {rest : List Craft} (ha : ca.name = "a") (hb : cb.name = "b") (hr : RestOk rest) (hl : (ca :: cb :: rest).length = 3) : (findC (ca :: cb :: rest) "c").isSome = true := by
  rcases hr with rfl | ⟨cc, rfl, hc, _⟩
  · simp at hl
  · unfold findC nameEq
    simp [ha, hb, hc, neac, nebc]
def bodyOf (s : List Int) : Body := ⟨(lworld s).mu, (lworld s).bulge, ⟨1, 0, 1⟩⟩
structure Bk (s : List Int) (n : Nat) (k : Conts) : Prop where
  body : k.body = bodyOf s
  st0 : 1 ≤ k.stride
  st1 : k.stride ≤ 100
  f0 : 0 ≤ k.fine
  f1 : k.fine ≤ 2
  no : k.sites.l = []
  cr : ∃ ca cb rest, k.crafts.l = ca :: cb :: rest ∧ CrOk (bodyOf s) "a" (lworld s).drift (oneOf s) n ca ∧ CrOk (bodyOf s) "b" (lworld s).drift (otherOf s) n cb ∧ RestOk rest
theorem Bk.kv {s : List Int} {n : Nat} {k : Conts} (h : Bk s n k) : KV k := by
  obtain ⟨ca, cb, rest, e, ha, hb, hr⟩ := h.cr
  have w := world_ok s
  have eb := h.body
  refine ⟨h.st0, h.st1, h.f0, h.f1, by rw [eb]; exact w.mu0, by rw [eb]; have := w.mu1; show (lworld s).mu ≤ 10 ^ 30; omega, by rw [eb]; exact w.b0, by rw [eb]; have := w.b1; show (lworld s).bulge ≤ 10 ^ 30; omega, fun c hc => ?_, ?_, h.no⟩
  · rw [e] at hc
    rcases List.mem_cons.mp hc with q | hc
    · rw [q]; exact ha.cv
    · rcases List.mem_cons.mp hc with q | hc
      · rw [q]; exact hb.cv
      · rcases hr with rfl | ⟨cc, rfl, _, hv, _⟩
        · cases hc
        · rw [List.mem_singleton.mp hc]; exact hv
  · rw [e]
    rcases hr with rfl | ⟨cc, rfl, _⟩ <;> simp
theorem Bk.fa {s : List Int} {n : Nat} {k : Conts} (h : Bk s n k) : (findC k.crafts.l "a").isSome = true := by
  obtain ⟨ca, cb, rest, e, ha, hb, hr⟩ := h.cr
  rw [e, find_a ha.nm]
  rfl
theorem Bk.fb {s : List Int} {n : Nat} {k : Conts} (h : Bk s n k) : (findC k.crafts.l "b").isSome = true := by
  obtain ⟨ca, cb, rest, e, ha, hb, hr⟩ := h.cr
  rw [e, find_b ha.nm hb.nm]
  rfl
theorem Bk.oa {s : List Int} {n : Nat} {k : Conts} (h : Bk s n k) : CrOk (bodyOf s) "a" (lworld s).drift (oneOf s) n (craftOf k "a") := by
  obtain ⟨ca, cb, rest, e, ha, hb, hr⟩ := h.cr
  unfold craftOf
  rw [e, find_a ha.nm]
  exact ha
theorem Bk.ob {s : List Int} {n : Nat} {k : Conts} (h : Bk s n k) : CrOk (bodyOf s) "b" (lworld s).drift (otherOf s) n (craftOf k "b") := by
  obtain ⟨ca, cb, rest, e, ha, hb, hr⟩ := h.cr
  unfold craftOf
  rw [e, find_b ha.nm hb.nm]
  exact hb
theorem Bk.mono {s : List Int} {n m : Nat} {k : Conts} (h : Bk s n k) (g : n ≤ m) : Bk s m k := ⟨h.body, h.st0, h.st1, h.f0, h.f1, h.no, let ⟨ca, cb, rest, e, ha, hb, hr⟩ := h.cr; ⟨ca, cb, rest, e, ha.mono g, hb.mono g, hr⟩⟩
theorem Bk.setA {s : List Int} {n m : Nat} {k : Conts} (h : Bk s n k) (g : n ≤ m) {t : Craft} (ht : CrOk (bodyOf s) "a" (lworld s).drift (oneOf s) m t) : Bk s m (withCrafts k ⟨putC k.crafts.l t⟩) := by
  obtain ⟨ca, cb, rest, e, ha, hb, hr⟩ := h.cr
  exact ⟨h.body, h.st0, h.st1, h.f0, h.f1, h.no, t, cb, rest, by show putC k.crafts.l t = _; rw [e, put_a ha.nm hb.nm ht.nm hr], ht, hb.mono g, hr⟩
theorem Bk.setB {s : List Int} {n m : Nat} {k : Conts} (h : Bk s n k) (g : n ≤ m) {t : Craft} (ht : CrOk (bodyOf s) "b" (lworld s).drift (otherOf s) m t) : Bk s m (withCrafts k ⟨putC k.crafts.l t⟩) := by
  obtain ⟨ca, cb, rest, e, ha, hb, hr⟩ := h.cr
  exact ⟨h.body, h.st0, h.st1, h.f0, h.f1, h.no, ca, t, rest, by show putC k.crafts.l t = _; rw [e, put_b ha.nm hb.nm ht.nm hr], ha.mono g, ht, hr⟩
theorem Bk.addC {s : List Int} {n : Nat} {k : Conts} (h : Bk s n k) {t : Craft} (h1 : t.name = "c") (h2 : CV t) (h3 : t.start ≤ 100) : Bk s n (withCrafts k ⟨putC k.crafts.l t⟩) := by
  obtain ⟨ca, cb, rest, e, ha, hb, hr⟩ := h.cr
  exact ⟨h.body, h.st0, h.st1, h.f0, h.f1, h.no, ca, cb, [t], by show putC k.crafts.l t = _; rw [e, put_c3 ha.nm hb.nm h1 hr], ha, hb, .inr ⟨t, rfl, h1, h2, h3⟩⟩
theorem Bk.dropC {s : List Int} {n : Nat} {k : Conts} (h : Bk s n k) : Bk s n (withCrafts k ⟨Or.dropC k.crafts.l "c"⟩) := by
  obtain ⟨ca, cb, rest, e, ha, hb, hr⟩ := h.cr
  exact ⟨h.body, h.st0, h.st1, h.f0, h.f1, h.no, ca, cb, [], by show Or.dropC k.crafts.l "c" = _; rw [e, drop_c ha.nm hb.nm hr], ha, hb, .inl rfl⟩
theorem Bk.fc {s : List Int} {n : Nat} {k : Conts} (h : Bk s n k) (hl : k.crafts.l.length = 3) : (findC k.crafts.l "c").isSome = true := by
  obtain ⟨ca, cb, rest, e, ha, hb, hr⟩ := h.cr
  rw [e] at hl ⊢
  exact find_c ha.nm hb.nm hr hl
/-! ### edits -/
theorem around_has {p : Pt} {w l : Int} (h0 : 0 ≤ w) (h1 : 0 ≤ l) : HB (aroundP p w l) p := by
  unfold HB Hv aroundP
  dsimp only
  omega
theorem drop_neq {l : List Sight} {u : Sight} (h : u ∈ l) : (l.filter fun o => !decide (o.at_ = u.at_)).length ≠ l.length := by
  intro e
  have h2 := List.length_filter_eq_length_iff.mp e u h
  simp at h2
/-- an edit drawn for one of the two -/
theorem seen_edit {b : Body} {nm : Str} {d0 : Int} {mot : List PV} {n : Nat} {c : Craft} (h : CrOk b nm d0 mot n c) (hn : n < 19) (hm : MotOk mot) (r : Int) :
    ∃ u : Sight, seenEdit c mot r = .addSight c.name u ∧ c.start ≤ u.at_ ∧ CrOk b nm d0 mot (n + 1) (remade c c.drift (.tp c.burns.l) (.ls (putS c u))) := by
  have hp := hm.pos
  have k0 := md0 r (y := (mot.length : Int)) (by omega)
  have k1 := md1 r (y := (mot.length : Int)) (by omega)
  have hb := pv_bn hm k0 k1
  refine ⟨_, rfl, by show c.start ≤ c.start + r % mot.length; omega, h.add (by omega) (around_in hb (wide3_in r).1 (wide3_in r).2 (bit_in r).1 (bit_in r).2) fun k x e hx => ?_⟩
  have e : c.start + r % (mot.length : Int) = c.start + (k : Int) := e
  have ek : (r % (mot.length : Int)).toNat = k := by omega
  show HB (aroundP (pvAt mot (r % mot.length)) _ _) x.a
  rw [pv_get (x := x) (by rw [ek]; exact hx)]
  exact around_has (wide3_in r).1 (bit_in r).1
end Or
set_option maxHeartbeats 400000
/-! Every drawn edit is allowed and keeps the book. -/
namespace Or
open PySem L2 L3
def edC (k : Conts) (nm : Str) (mot : List PV) (drift kind d : Int) : Edit :=
  let c := craftOf k nm
  if kind < 3 then seenEdit c mot d
  else if kind = 3 ∧ 0 < c.sights.l.length then .dropSight c.name (c.sights.l.getD (d % c.sights.l.length).toNat ⟨0, nothing⟩).at_
  else if kind = 4 then .setDrift c.name (drift + d % 3)
  else if kind = 5 then .setStride (1 + d % 4)
  else if kind = 6 then .setFine (d % 3)
  else if kind = 7 ∧ k.crafts.l.length = 3 then .dropCraft "c"
  else .addCraft (newC d)
theorem ledit_eq (k : Conts) (one other : List PV) (drift r : Int) : ledit k one other drift r = edC k (nmOf (r % 2)) (pick [one, other] (r % 2) []) drift (r / 2 % 9) (r / 18) := rfl
theorem newC_cv (d : Int) : CV (newC d) ∧ (newC d).start ≤ 100 := by
  have hb1 : boxIn 309 (lbox d 300 9) := lbox_in (by decide) (by decide)
  have hb2 : boxIn 10 (lbox (d / 7) 9 1) := lbox_in (by decide) (by decide)
  have d0 := md0 d (y := 5) (by decide)
  have d1 := md1 d (y := 5) (by decide)
  have d2 := md0 d (y := 2) (by decide)
  have d3 := md1 d (y := 2) (by decide)
  refine ⟨⟨.inr (.inr rfl), d0, by show d % 5 ≤ 100000; omega, hb1.mono (by decide), hb2.mono (by decide), d2, by show d % 2 ≤ 10 ^ 12; omega, fun u hu => ?_, Nat.zero_le _, fun u hu => ?_, Nat.zero_le _⟩, by show d % 5 ≤ 100; omega⟩
  · cases hu
  · cases hu
theorem edC_ok {s : List Int} {n : Nat} {k : Conts} (h : Bk s n k) (hn : n < 19) {nm : Str} {mot : List PV} (hc : CrOk (bodyOf s) nm (lworld s).drift mot n (craftOf k nm)) (hf : (findC k.crafts.l nm).isSome = true) (hm : MotOk mot)
    (set_ : ∀ m t, n ≤ m → CrOk (bodyOf s) nm (lworld s).drift mot m t → Bk s m (withCrafts k ⟨putC k.crafts.l t⟩)) (kind d : Int) : EOk k (edC k nm mot (lworld s).drift kind d) ∧ Bk s (n + 1) (applyE k (edC k nm mot (lworld s).drift kind d)) := by
  have kv := h.kv
  have w := world_ok s
  have hnm := hc.nm
  have hsl := hc.sl
  have h1 := h.mono (Nat.le_succ n)
  unfold edC
  dsimp only
  split
  · obtain ⟨u, e, hs, hcr⟩ := seen_edit hc hn hm d
    rw [e, hnm]
    have ho := other_len (c := craftOf k nm) (t := u.at_)
    exact ⟨⟨kv, hf, hs, by omega⟩, set_ _ _ (Nat.le_succ n) hcr⟩
  split
  · rename_i g
    have q0 := md0 d (y := ((craftOf k nm).sights.l.length : Int)) (by omega)
    have q1 := md1 d (y := ((craftOf k nm).sights.l.length : Int)) (by omega)
    have hu := List.mem_of_getElem? (pick_get (l := (craftOf k nm).sights.l) (z := d % ((craftOf k nm).sights.l.length : Int)) (⟨0, nothing⟩ : Sight) q0 q1)
    rw [hnm]
    exact ⟨⟨kv, hf, drop_neq hu⟩, set_ _ _ (Nat.le_succ n) ((hc.dropS _).mono (Nat.le_succ n))⟩
  split
  · have q0 := md0 d (y := 3) (by decide)
    have q1 := md1 d (y := 3) (by decide)
    have a0 := w.d0
    have a1 := w.d1
    have em : MOSTD = 10 ^ 12 := rfl
    rw [hnm]
    exact ⟨⟨kv, hf, by omega, by rw [em]; omega⟩, set_ _ _ (Nat.le_succ n) ((hc.drift (by omega) (by omega) (by rw [em]; omega)).mono (Nat.le_succ n))⟩
  split
  · have q0 := md0 d (y := 4) (by decide)
    have q1 := md1 d (y := 4) (by decide)
    exact ⟨⟨kv, by omega, by omega⟩, ⟨h1.body, by show 1 ≤ 1 + d % 4; omega, by show 1 + d % 4 ≤ 100; omega, h1.f0, h1.f1, h1.no, h1.cr⟩⟩
  split
  · have q0 := md0 d (y := 3) (by decide)
    have q1 := md1 d (y := 3) (by decide)
    exact ⟨⟨kv, by omega, by omega⟩, ⟨h1.body, h1.st0, h1.st1, by show 0 ≤ d % 3; omega, by show d % 3 ≤ 2; omega, h1.no, h1.cr⟩⟩
  split
  · rename_i g
    exact ⟨⟨kv, h.fc g.2⟩, h1.dropC⟩
  · obtain ⟨c1, c2⟩ := newC_cv d
    have hl : k.crafts.l.length < 20 := by
      obtain ⟨ca, cb, rest, e, _, _, hr⟩ := h.cr
      rw [e]
      rcases hr with rfl | ⟨cc, rfl, _⟩ <;> simp
    exact ⟨⟨kv, hl, c1⟩, h1.addC rfl ⟨c1.nm, c1.s0, c1.s1, c1.pl, c1.sp, c1.d0, c1.d1, c1.bu, c1.bl, c1.si, c1.sl⟩ c2⟩
theorem edit_ok {s : List Int} {n : Nat} {k : Conts} (h : Bk s n k) (hn : n < 19) (r : Int) : EOk k (ledit k (oneOf s) (otherOf s) (lworld s).drift r) ∧ Bk s (n + 1) (applyE k (ledit k (oneOf s) (otherOf s) (lworld s).drift r)) := by
  rw [ledit_eq]
  have i0 := md0 r (y := 2) (by decide)
  have i1 := md1 r (y := 2) (by decide)
  have e : r % 2 = 0 ∨ r % 2 = 1 := by omega
  rcases e with e | e <;> rw [e]
  · exact edC_ok h hn h.oa h.fa (one_ok s) (fun m t g ht => h.setA g ht) _ _
  · exact edC_ok h hn h.ob h.fb (other_ok s) (fun m t g ht => h.setB g ht) _ _
theorem drop_ok {s : List Int} {n : Nat} {k : Conts} (h : Bk s n k) (hl : k.crafts.l.length = 3) : EOk k (.dropCraft "c") ∧ Bk s n (applyE k (.dropCraft "c")) := ⟨⟨h.kv, h.fc hl⟩, h.dropC⟩
/-! ### what the law asks of the book -/
theorem bk_course {s : List Int} {n : Nat} {k : Conts} (h : Bk s n k) (i : Int) (hi : i = 0 ∨ i = 1) (u : Int) : courseHolds k (craftOf k (nmOf i)) (pick [oneOf s, otherOf s] i []) u = true := by
  have eb := h.body
  rcases hi with e | e <;> subst e
  · exact course_true (by rw [eb]; exact h.oa.obeys (one_ok s).pos) u
  · exact course_true (by rw [eb]; exact h.ob.obeys (other_ok s).pos) u
theorem bk_paper {s : List Int} {n : Nat} {k : Conts} (h : Bk s n k) (i : Int) (hi : i = 0 ∨ i = 1) {u : Int} (h0 : (craftOf k (nmOf i)).start ≤ u) (h1 : u - (craftOf k (nmOf i)).start < (pick [oneOf s, otherOf s] i []).length) : paperHolds k (craftOf k (nmOf i)) (pick [oneOf s, otherOf s] i []) u = true := by
  have eb := h.body
  rcases hi with e | e <;> subst e
  · exact paper_true (by rw [eb]; exact h.oa.obeys (one_ok s).pos) h0 h1
  · exact paper_true (by rw [eb]; exact h.ob.obeys (other_ok s).pos) h0 h1
theorem bk_meeting {s : List Int} {n : Nat} {k : Conts} (h : Bk s n k) (d : Int) : meetingTrue k (craftOf k "a") (craftOf k "b") (oneOf s) (otherOf s) d = true := by
  have eb := h.body
  exact meeting_true (by rw [eb]; exact h.oa.obeys (one_ok s).pos) (by rw [eb]; exact h.ob.obeys (other_ok s).pos) d
end Or
set_option maxHeartbeats 400000
/-! The book is filled. -/
namespace Or
open PySem L2 L3
theorem bg_mono (f r : Int) (i : Nat) : ∀ j, bgAt f r i ≤ bgAt f r (i + j)
  | 0 => Int.le_refl _
  | j + 1 => by
    have h := bg_mono f r i j
    have g := (bgAt_ge f r (i + j)).2.2
    have a0 := md0 (r / 5) (y := 3) (by decide)
    have e : i + (j + 1) = i + j + 1 := by omega
    rw [e]
    omega
theorem burns_order {s : List Int} {i j : Nat} {u v : BT} (hi : (lworld s).burns[i]? = some u) (hj : (lworld s).burns[j]? = some v) (h : i < j) : u.a < v.a ∧ u.b ≤ v.a := by
  have e : (lworld s).burns = wBurns (lrow s 1 / 31 % 9) (lrow s 6) := rfl
  rw [e] at hi hj
  unfold wBurns at hi hj
  rw [List.getElem?_map] at hi hj
  have li : i < (lrow s 6 / 4 % 3).toNat := by
    by_cases q : i < (lrow s 6 / 4 % 3).toNat
    · exact q
    · rw [List.getElem?_eq_none (by simpa using q)] at hi; cases hi
  have lj : j < (lrow s 6 / 4 % 3).toNat := by
    by_cases q : j < (lrow s 6 / 4 % 3).toNat
    · exact q
    · rw [List.getElem?_eq_none (by simpa using q)] at hj; cases hj
  rw [List.getElem?_range li] at hi
  rw [List.getElem?_range lj] at hj
  cases hi
  cases hj
  have g := (bgAt_ge (lrow s 1 / 31 % 9 + lrow s 6 % 4) (lrow s 6) i).2.2
  have m := bg_mono (lrow s 1 / 31 % 9 + lrow s 6 % 4) (lrow s 6) (i + 1) (j - (i + 1))
  have ej : i + 1 + (j - (i + 1)) = j := by omega
  rw [ej] at m
  have a0 := md0 (lrow s 6 / 5) (y := 3) (by decide)
  show bgAt _ _ i < bgAt _ _ j ∧ bgAt _ _ i + 1 + _ ≤ bgAt _ _ j
  omega
/-- craft a with its first j burns, no sightings -/
def aWith (s : List Int) (j : Nat) : Craft := ⟨"a", (lworld s).start, (lworld s).place, (lworld s).speed, (lworld s).drift, ⟨((lworld s).burns.map toBurn).take j⟩, ⟨[]⟩⟩
def kOf (s : List Int) (l : List Craft) : Conts := ⟨bodyOf s, 1, (lworld s).fine, ⟨l⟩, ⟨[]⟩⟩
theorem aWith_cv (s : List Int) (j : Nat) : CV (aWith s j) := by
  have w := world_ok s
  have b := burns_ok w
  refine ⟨name_a, w.s0, by have := w.s1; show (lworld s).start ≤ 100000; omega, w.pl.mono (by decide), w.sp.mono (by decide), w.d0, by have := w.d1; show (lworld s).drift ≤ 10 ^ 12; omega, fun u hu => ?_, ?_, fun u hu => (nomatch hu), Nat.zero_le _⟩
  · obtain ⟨v, hv, rfl⟩ := List.mem_map.mp (List.mem_of_mem_take hu)
    exact (b v hv).2
  · show (List.take j _).length ≤ 20
    rw [List.length_take, List.length_map]
    have := w.bl
    omega
theorem kOf_kv (s : List Int) {l : List Craft} (h : ∀ c ∈ l, CV c) (hl : l.length ≤ 20) : KV (kOf s l) := by
  have w := world_ok s
  exact ⟨by show (1 : Int) ≤ 1; decide, by show (1 : Int) ≤ 100; decide, w.f0, w.f1, w.mu0, by have := w.mu1; show (lworld s).mu ≤ 10 ^ 30; omega, w.b0, by have := w.b1; show (lworld s).bulge ≤ 10 ^ 30; omega, h, hl, rfl⟩
theorem nil_kv (s : List Int) : KV (kOf s []) := kOf_kv s (fun c hc => nomatch hc) (Nat.zero_le _)
theorem a_kv (s : List Int) (j : Nat) : KV (kOf s [aWith s j]) := kOf_kv s (fun c hc => by rw [List.mem_singleton.mp hc]; exact aWith_cv s j) (by simp)
theorem first_cv (s : List Int) : CV (firstOf s) := by
  have w := world_ok s
  have b := burns_ok w
  have m := one_ok s
  have so := seen_ok (s := s) m w.s0 (by have := w.s1; omega)
  have sl := seen_len (s := s) (mot := oneOf s) (start := (lworld s).start)
  have ml := m.len
  refine ⟨name_a, w.s0, by have := w.s1; show (lworld s).start ≤ 100000; omega, w.pl.mono (by decide), w.sp.mono (by decide), w.d0, by have := w.d1; show (lworld s).drift ≤ 10 ^ 12; omega, fun u hu => ?_, ?_, fun u hu => ?_, ?_⟩
  · obtain ⟨v, hv, rfl⟩ := List.mem_map.mp hu
    exact (b v hv).2
  · show (List.map _ _).length ≤ 20
    rw [List.length_map]
    have := w.bl
    omega
  · obtain ⟨v, hv, rfl⟩ := List.mem_map.mp hu
    exact (so v hv).2
  · show (List.map _ _).length ≤ 20
    rw [List.length_map]
    omega
theorem second_cv (s : List Int) : CV (secondOf s) := by
  have w := world_ok s
  have m := other_ok s
  have l := later_in s
  have so := seen_ok (s := cellsOf s) m l.1 (by have := l.2; omega)
  have sl := seen_len (s := cellsOf s) (mot := otherOf s) (start := laterOf s)
  have ml := m.len
  refine ⟨name_b, l.1, by have := l.2; show laterOf s ≤ 100000; omega, (here_in s).mono (by decide), (swift_in s).mono (by decide), w.d0, by have := w.d1; show (lworld s).drift ≤ 10 ^ 12; omega, fun u hu => (nomatch hu), Nat.zero_le _, fun u hu => ?_, ?_⟩
  · obtain ⟨v, hv, rfl⟩ := List.mem_map.mp hu
    exact (so v hv).2
  · show (List.map _ _).length ≤ 20
    rw [List.length_map]
    omega
theorem add_first (s : List Int) : EOk (kOf s []) (.addCraft (firstOf s)) ∧ applyE (kOf s []) (.addCraft (firstOf s)) = kOf s [aWith s 0] := ⟨⟨nil_kv s, by show 0 < 20; decide, first_cv s⟩, rfl⟩
theorem find_a1 (s : List Int) (j : Nat) : findC (kOf s [aWith s j]).crafts.l "a" = some (aWith s j) := by
  show findC [aWith s j] "a" = _
  unfold findC nameEq aWith
  simp
theorem craft_a1 (s : List Int) (j : Nat) : craftOf (kOf s [aWith s j]) "a" = aWith s j := by
  unfold craftOf
  rw [find_a1]
  rfl
theorem add_burn_ok (s : List Int) {j : Nat} {u : Burn} (hu : (firstOf s).burns.l[j]? = some u) : EOk (kOf s [aWith s j]) (.addBurn "a" u) ∧ applyE (kOf s [aWith s j]) (.addBurn "a" u) = kOf s [aWith s (j + 1)] := by
  have w := world_ok s
  have hu : ((lworld s).burns.map toBurn)[j]? = some u := hu
  rw [List.getElem?_map] at hu
  cases eb : (lworld s).burns[j]? with
  | none => rw [eb] at hu; cases hu
  | some v =>
    rw [eb] at hu
    have eu : toBurn v = u := Option.some.inj hu
    have ord : ∀ o ∈ ((lworld s).burns.map toBurn).take j, o.b < u.b ∧ o.e ≤ u.b := by
      intro o ho
      obtain ⟨i, hi, e⟩ := List.mem_iff_getElem.mp ho
      have hij : i < j := by rw [List.length_take] at hi; omega
      have e2 : (((lworld s).burns.map toBurn).take j)[i]? = some o := by rw [List.getElem?_eq_getElem hi, e]
      rw [List.getElem?_take_of_lt hij, List.getElem?_map] at e2
      cases ei : (lworld s).burns[i]? with
      | none => rw [ei] at e2; cases e2
      | some z =>
        rw [ei] at e2
        have ez : toBurn z = o := Option.some.inj e2
        rw [← ez, ← eu]
        exact burns_order ei eb hij
    have oth : otherB (aWith s j) u = ((lworld s).burns.map toBurn).take j := by
      unfold otherB
      refine List.filter_eq_self.mpr fun o ho => ?_
      have := (ord o ho).1
      simp
      omega
    have ll : (((lworld s).burns.map toBurn).take j).length ≤ 2 := by
      rw [List.length_take, List.length_map]
      have := w.bl
      omega
    have hv := (w.bu v (List.mem_of_getElem? eb)).2
    refine ⟨⟨a_kv s j, by rw [find_a1]; rfl, ?_, ?_, ?_⟩, ?_⟩
    · rw [craft_a1, ← eu]
      exact hv
    · rw [craft_a1, oth]
      omega
    · rw [craft_a1, oth]
      intro o ho
      have := ord o ho
      omega
    · show changed (kOf s [aWith s j]) (craftOf (kOf s [aWith s j]) "a") (craftOf (kOf s [aWith s j]) "a").drift (.ls (putB (craftOf (kOf s [aWith s j]) "a") u)) (.tp (craftOf (kOf s [aWith s j]) "a").sights.l) = _
      rw [craft_a1]
      have pb : putB (aWith s j) u = ((lworld s).burns.map toBurn).take (j + 1) := by
        unfold putB
        rw [oth]
        have f1 : (((lworld s).burns.map toBurn).take j).filter (fun o => decide (o.b < u.b)) = ((lworld s).burns.map toBurn).take j := List.filter_eq_self.mpr fun o ho => decide_eq_true (ord o ho).1
        have f2 : (((lworld s).burns.map toBurn).take j).filter (fun o => decide (o.b > u.b)) = [] := List.filter_eq_nil_iff.mpr fun o ho => by
          have := (ord o ho).1
          simp
          omega
        rw [f1, f2, List.append_nil, List.take_succ, List.getElem?_map, eb]
        show _ = _ ++ [toBurn v]
        rw [eu]
      rw [pb]
      rfl
/-- craft b as it stands in the book -/
def b0 (s : List Int) : Craft := remade (secondOf s) (secondOf s).drift (.tp []) (.tp [])
theorem add_second (s : List Int) (j : Nat) : EOk (kOf s [aWith s j]) (.addCraft (secondOf s)) ∧ applyE (kOf s [aWith s j]) (.addCraft (secondOf s)) = kOf s [aWith s j, b0 s] := by
  refine ⟨⟨a_kv s j, by show 1 < 20; decide, second_cv s⟩, ?_⟩
  show withCrafts (kOf s [aWith s j]) ⟨putC [aWith s j] (b0 s)⟩ = _
  have e : putC [aWith s j] (b0 s) = [aWith s j, b0 s] := by
    have n1 : (aWith s j).name = "a" := rfl
    have n2 : (b0 s).name = "b" := rfl
    unfold putC
    simp [List.filter_cons, n1, n2, ltab, ltba]
  rw [e]
  rfl
theorem b0_cv (s : List Int) : CV (b0 s) := by
  have c := second_cv s
  exact ⟨c.nm, c.s0, c.s1, c.pl, c.sp, c.d0, c.d1, fun u hu => (nomatch hu), Nat.zero_le _, fun u hu => (nomatch hu), Nat.zero_le _⟩
theorem full_kv (s : List Int) (j : Nat) : KV (kOf s [aWith s j, b0 s]) := kOf_kv s (fun c hc => by
  rcases List.mem_cons.mp hc with e | hc
  · rw [e]; exact aWith_cv s j
  · rw [List.mem_singleton.mp hc]; exact b0_cv s) (by simp)
theorem zero_of {p : Pt} {h : zeroP p = false} : zeroP p = false := h
/-- the book when it is filled -/
theorem book_full (s : List Int) : Bk s 0 (kOf s [aWith s (firstOf s).burns.l.length, b0 s]) := by
  have w := world_ok s
  have l := later_in s
  refine ⟨rfl, by show (1 : Int) ≤ 1; decide, by show (1 : Int) ≤ 100; decide, w.f0, w.f1, rfl, aWith s (firstOf s).burns.l.length, b0 s, [], rfl, ⟨rfl, aWith_cv s _, by have := w.s1; show (lworld s).start ≤ 100; omega, fun x hx => ?_, fun k x y hx hy => ?_, Int.le_refl _, fun u hu => (nomatch hu), Nat.le_refl _⟩, ⟨rfl, b0_cv s, by have := l.2; show laterOf s ≤ 100; omega, fun x hx => ?_, fun k x y hx hy => ?_, Int.le_refl _, fun u hu => (nomatch hu), Nat.le_refl _⟩, .inl rfl⟩
  · rw [show (oneOf s)[0]? = some (mot0 s (lworld s).place (lworld s).speed) from motion_first] at hx
    cases hx
    exact ⟨hb_iff.mp (member_has (box_of w.pl) _), hb_iff.mp (member_has (box_of w.sp) _)⟩
  · rw [motion_chain k x y hx hy]
    refine stepM_ok (mv_ok w) rfl rfl ?_ x
    refine push_eq ?_ _
    show List.take (firstOf s).burns.l.length _ = _
    have e : (firstOf s).burns.l = (lworld s).burns.map toBurn := rfl
    rw [e, List.take_length]
    rfl
  · rw [show (otherOf s)[0]? = some (mot0 (cellsOf s) (hereOf s) (swiftOf s)) from motion_first] at hx
    cases hx
    exact ⟨hb_iff.mp (member_has (box_of (here_in s)) _), hb_iff.mp (member_has (box_of (swift_in s)) _)⟩
  · rw [motion_chain k x y hx hy]
    exact stepM_ok (other_mv s) rfl rfl (push_eq (l := []) rfl _) x
end Or
set_option maxHeartbeats 400000
/-! CourseLost(at): made. Its __init__ says super().__init__(str(at)), then self.at = at. -/
namespace Or
open PySem PySem.Spec PyProof.Rows L2 L3
/-- what is asked of the program beyond the defs' texts -/
structure PrOk (P : Program) : Prop where
  file : P.main.file = PySem.Challenge.pw_orrery_k85_whole_catalogues_hold_their_m.main.file
  sup : P.main.scope.names.lookup ("super" : Str) = none
structure Lost (K : Fg) (C fI : Addr) : Prop where
  fn : ∃ (oc : Value) (od : Option Addr) (fd : FuncData) (osl : Array (Option Value)) (cc ca : Addr), K.lookup fI = some ⟨oc, od, .func fd, osl⟩ ∧ fd.qualname = "CourseLost.__init__" ∧ fd.params = defArgs st_lost ∧ fd.body = .stmts (defBody st_lost) ∧ fd.scope = defScope st_lost ∧
    fd.globals = mainGlobals ∧ fd.builtins = builtinsNs ∧ fd.closure = [(("__class__" : Str), cc)] ∧ fd.code = .ref ca ∧ fd.defaults = .none ∧ PySem.W.codeIn K (.ref ca) "CourseLost.__init__" = true ∧
    (∃ (c1 : Value) (c2 : Option Addr) (vs : Array Value) (c3 : Array (Option Value)) (tf : Tok), K.lookup ca = some ⟨c1, c2, .fields vs, c3⟩ ∧ vs[2]? = some (.str PySem.Challenge.pw_orrery_k85_whole_catalogues_hold_their_m.main.file tf)) ∧
    ∃ (c1 : Value) (c2 : Option Addr) (c3 : Array (Option Value)), K.lookup cc = some ⟨c1, c2, .cell (some (.ref C)), c3⟩
  cls : ∃ nm q N bs bm sn sub ab col dd k0 k1 k2 k3 k5, K.lookup C = some (excClassObj nm q C N bs bm true sn sub ab col dd k0 k1 k2 k3 k5 "ValueError.__new__") ∧ PySem.HandSPX.refsVE bm = true
  mro : PySem.W.mroIn K C (.ref C) = some true
  sup : PySem.W.ks_superIn K C C "__init__" = some (some (.builtin "ValueError.__init__"))
  cst : PySem.W.nsIn K cStatics "thirdparty.any" = some none
  subV : PySem.W.subIn K (.ref C) (.type "ValueError") = some true
  exi : PySem.W.excInitIn K C PySem.HandSPX.veTail "ValueError.__new__" = true
  sa : PySem.W.findIn K (.ref C) "__setattr__" = some (some (.builtin "object.__setattr__"))
  noAt : PySem.W.findIn K (.ref C) "at" = some none
  ini : PySem.W.findIn K (.ref C) "__init__" = some (some (.ref fI))
  ty : PySem.W.typeIn K (.ref fI) = some (.type "function")
  kp : PySem.W.keepIn K (.ref C) = true
  exb : PySem.W.subIn K (.ref C) (.type "BaseException") = some true
  tyC : PySem.W.typeIn K (.ref C) = some (.type "type")
  te : PySem.W.exmOne K (.ref C) (.ref C) = some true
  glo : PySem.W.nsIn K mainGlobals "CourseLost" = some (some (.ref C))
theorem refsVE_of : ∀ l : List Value, PySem.W.excTail PySem.HandSPX.veTail l = true → PySem.HandSPX.refsVE l = true := by
  intro l
  induction l with
  | nil => intro e; exact absurd e (by decide)
  | cons a r ih =>
    intro e
    rcases PySem.W.excTail_cases (a :: r) e with ⟨c, r', q, h⟩ | q
    · obtain ⟨rfl, rfl⟩ := List.cons.inj q
      exact ih h
    · rw [q]; decide +kernel
theorem excCls_of {K : Fg} {C : Addr} (q : PySem.W.excInitIn K C PySem.HandSPX.veTail "ValueError.__new__" = true) (hd : PySem.W.hasDictIn K C = true) :
    ∃ nm q N bs bm sn sub ab col dd k0 k1 k2 k3 k5, K.lookup C = some (excClassObj nm q C N bs bm true sn sub ab col dd k0 k1 k2 k3 k5 "ValueError.__new__") ∧ PySem.HandSPX.refsVE bm = true := by
  unfold PySem.W.excInitIn at q
  unfold PySem.W.hasDictIn PySem.W.clsIn at hd
  split at q
  · rename_i dd cd sl ho
    rw [ho] at hd ⊢
    split at q
    · rename_i D bm k0 k1 k2 k3 n k5 hm hs
      have hd : cd.hasDict = true := hd
      simp only [Bool.and_eq_true, beq_iff_eq, Bool.not_eq_true'] at q
      obtain ⟨⟨⟨rfl, rfl⟩, hdel⟩, ht⟩ := q
      cases cd
      dsimp only at hm hdel hd
      subst hm hdel hd
      have e : sl = #[k0, k1, k2, k3, some (.builtin "ValueError.__new__"), k5] := by
        cases sl
        exact congrArg Array.mk hs
      subst e
      exact ⟨_, _, _, _, _, _, _, _, _, _, _, _, _, _, _, rfl, refsVE_of _ ht⟩
    · cases q
  · cases q
theorem ba2 {a b : Bool} (h : (a && b) = true) : a = true ∧ b = true := Bool.and_eq_true_iff.mp h
theorem Tx.lostC {w : World} {K : Fg} {mg : Str → Option Value} (T : Tx w K mg) : Lost K (He.ga K "CourseLost") (lostAt K) := by
  have hm := T.more
  have hw := T.lost
  unfold moreB at hm
  have h := (ba2 (ba2 (ba2 (ba2 (ba2 (ba2 (ba2 (ba2 (ba2 (ba2 (ba2 (ba2 (ba2 (ba2 (ba2 (ba2 (ba2 hm).2).2).2).2).2).2).2).2).2).2).2).2).2).2).2).2).2
  clear hm
  unfold lostB at h
  obtain ⟨h1, h⟩ := ba2 h
  obtain ⟨h2, h⟩ := ba2 h
  obtain ⟨h3, h⟩ := ba2 h
  obtain ⟨h4, h⟩ := ba2 h
  obtain ⟨h5, h⟩ := ba2 h
  obtain ⟨h6, h⟩ := ba2 h
  obtain ⟨h7, h⟩ := ba2 h
  obtain ⟨h8, h⟩ := ba2 h
  obtain ⟨h9, h⟩ := ba2 h
  obtain ⟨h10, h⟩ := ba2 h
  obtain ⟨h11, h⟩ := ba2 h
  obtain ⟨h12, h⟩ := ba2 h
  obtain ⟨h13, h⟩ := ba2 h
  obtain ⟨h14, h⟩ := ba2 h
  obtain ⟨h15, h⟩ := ba2 h
  obtain ⟨h16, h⟩ := ba2 h
  obtain ⟨h17, h⟩ := ba2 h
  obtain ⟨h18, h19⟩ := ba2 h
  refine ⟨?_, excCls_of h9 h17, of_decide_eq_true h5, of_decide_eq_true h6, He.eqO_ok h7, of_decide_eq_true h8, h9, He.eqO_ok h10, He.eqO_ok h11, He.eqO_ok h12, of_decide_eq_true h13, h14, of_decide_eq_true h15, of_decide_eq_true h16, of_decide_eq_true h18, He.eqO_ok h19⟩
  unfold lostW lostV at hw
  unfold lostCodeB at h1
  cases hf : lostF K with
  | none => rw [hf] at hw; cases hw
  | some fd =>
    rw [hf] at hw h1
    have hw := Option.some.inj hw
    obtain ⟨g1, h1⟩ := ba2 h1
    obtain ⟨g2, g3⟩ := ba2 h1
    have g1 := of_decide_eq_true g1
    have g2 := of_decide_eq_true g2
    have g3 := of_decide_eq_true g3
    injection hw with e1 hw
    injection hw with e2 hw
    injection hw with e3 hw
    injection hw with e4 hw
    injection hw with e5 hw
    injection hw with e6 hw
    injection hw with e7 e8
    unfold lostF at hf
    split at hf
    · rename_i oc od fd' osl ho
      cases hf
      refine ⟨oc, od, fd, osl, lostCell K, lostCode K, ho, e2, e3, e4, e5, e6, e8, g2, g1, g3, h2, ?_, ?_⟩
      · unfold lostFile at h3
        split at h3
        · rename_i c1 c2 vs c3 hc
          split at h3
          · rename_i f tf hv
            have ef := of_decide_eq_true h3
            subst ef
            exact ⟨_, _, _, _, _, hc, hv⟩
          · cases h3
        · cases h3
      · unfold lostCellB at h4
        split at h4
        · rename_i c1 c2 D c3 hc
          have ef := of_decide_eq_true h4
          rw [ef] at hc
          exact ⟨_, _, _, hc⟩
        · cases h4
    · cases hf
/-! ### __init__ -/
section
open PySem.W PySem.Calls PySem.HandSPX
/-- what __init__ leaves of a fresh exception at x, seen from the heap hp ahead of it -/
structure LostEnd (hp h' : Heap) (x C dx : Addr) (v : Value) : Prop where
  keep : ∀ b o, hp.get? b = some o → h'.get? b = some o
  obj : ∃ t1 : Addr, h'.get? x = some ({ cls := .ref C, dict := some dx, data := .fields #[.ref t1, .none, .none, .none, .bool false, .none] } : Obj)
  dbig : hp.objs.size ≤ dx
  dne : dx ≠ x
  ns : h'.Ns1 dx (fun y => if y = "at" then some v else none)
/-- what the modules' names say -/
structure GlbOk (hp : Heap) (mg : Str → Option Value) : Prop where
  g : hp.Ns mainGlobals mg
  b : ∃ mb, hp.Ns builtinsNs mb ∧ mb "super" = some (.type "super") ∧ mb "str" = some (.type "str")
  s1 : mg "super" = none
  s2 : mg "str" = none
variable {prog : Program} {w : World} {A : Around} {R : Result → Shared → Prop} {hp h0 : Heap} {g : Array GenState} {d : Drawn} {t : Nat} {os : OsState} {K : Frag} {mg : Str → Option Value} {C fI : Addr}
theorem lost_init (T : Lost K C fI) (P : PrOk prog) {x t0 : Addr} {v : Int} {tv : Tok} (X : K.In hp) (G : GlbOk hp mg) (hlim : hp.NoLimit) (hroom : A.depth < recursionLimit) (hv : v.natAbs.log2 < 1920)
    (k : ∀ b o, hp.get? b = some o → h0.get? b = some o) (hx : h0.get? x = some (excO C t0)) (hxn : hp.get? x = none) (hsz : hp.objs.size ≤ h0.objs.size)
    (hq : ∀ h' tk dx, LostEnd hp h' x C dx (.int v tv) → R (.ok (.ret .none)) ⟨h', g, d, tk, os⟩) :
    codeAny (model prog w) A (.call (.ref fI) ⟨[.ref x, .int v tv], []⟩) R ⟨h0, g, d, t, os⟩ := by
  obtain ⟨oc, od, fd, osl, cc, ca, ho, f1, f2, f3, f4, f5, f6, f7, f8, f9, hcd, ⟨u1, u2, vs, u3, tf, hcode, hvs⟩, w1, w2, w3, hcell⟩ := T.fn
  obtain ⟨nm, q, N, bs, bm, sn, sub, ab, col, dd, k0, k1, k2, k3, k5, hC, hbm⟩ := T.cls
  obtain ⟨mb, hB, hb1, hb2⟩ := G.b
  have hcl : clsIn K C = some { name := nm, bases := bs, mro := .ref C :: bm, ns := N, qualname := q, hasDict := true, slotNames := sn, subclasses := sub, abstract := ab, collection := col, hasDel := false } := by
    unfold clsIn
    rw [hC]
  have X0 : K.In h0 := X.keeps k
  cases fd
  dsimp only at f1 f2 f3 f4 f5 f6 f7 f8 f9
  subst f1 f2 f3 f4 f5 f6 f7 f8 f9
  have n1 : ∀ y ∈ (defScope st_lost).names, y.2 ≠ .cell := by decide +kernel
  have n2 : (defScope st_lost).names.lookup ("self" : Str) = some .local := by decide +kernel
  have n3 : (defScope st_lost).names.lookup ("at" : Str) = some .local := by decide +kernel
  refine ks_codeAny_call_defAt (binds := [("self", .ref x), ("at", .int v tv)]) hroom (X0 _ _ ho) rfl (hlim.keeps k) (codeRec_of X0 hcd) rfl (BindsTo.of_eq (by first | rfl | with_unfolding_all rfl)) n1 (fun y hy => ?hl) (fun h₁ hns hk₁ => ?_) rfl rfl rfl
  case hl =>
    rcases List.mem_cons.mp hy with e | hy
    · rw [e]; exact n2
    · rw [List.mem_singleton.mp hy]; exact n3
  have hkk : ∀ b o, hp.get? b = some o → h₁.get? b = some o := fun b o e => hk₁ b o (k b o e)
  have hC1 := hkk _ _ (X _ _ hC)
  have hx1 := hk₁ _ _ hx
  have hxL : x ≠ h0.objs.size := Nat.ne_of_lt (Heap.lt_size hx)
  refine ks_wpAt_execs_cons (ks_wpAt_Expr_any (ks_wpAt_MethodCall (pl := ?pl) ?_ ?he))
  case he => rfl
  refine ks_wpAt_super_base rfl rfl rfl rfl (hkk _ _ (X _ _ ho)) rfl rfl rfl (hkk _ _ (X _ _ hcode)) rfl hvs (by rw [P.file]; exact beq_self_eq_true _) (by rw [P.sup]; rfl) ?_
  refine ks_loadName_global rfl rfl (loadGlobal_builtin (G.g.keeps hkk) G.s1 (hB.keeps hkk) hb1 ⟨rfl, ?_⟩)
  refine wpAny_loadName_free rfl rfl rfl ⟨_, hkk _ _ (X _ _ hcell), rfl⟩ ?_
  refine wpAny_loadName_local rfl rfl hns (v := .ref x) rfl ?_
  refine ks_wpAny_isType_cls hC1 rfl ⟨rfl, ?_⟩
  refine ks_wpAny_call_super hC1 rfl hx1 rfl (fun c e => by cases e) (looks_mroIn (X.keeps hkk) T.mro) (fun h2 e2 k2 => ?_)
  have F2 : Fr hp h0.objs.size h2 _ := ⟨hns.keeps k2, fun b o e => k2 b o (hkk b o e), hsz⟩
  have ltx : x < h₁.objs.size := Heap.lt_size hx1
  have N2 : News hp h0.objs.size h2 [(h₁.objs.size, ks_superObj C x C), (x, excObj C t0 none .none)] := fun p hp' => by
    rcases List.mem_cons.mp hp' with e | hp'
    · rw [e]
      refine ⟨e2, fun z => Nat.ne_of_gt hns.lt z, ?_⟩
      · cases z : hp.get? h₁.objs.size with
        | none => rfl
        | some o => exact absurd (Heap.lt_size (hkk _ _ z)) (Nat.lt_irrefl _)
    · rw [List.mem_singleton.mp hp']
      exact ⟨k2 _ _ hx1, hxL, hxn⟩
  refine kxs_method kxs_ValueError F2 X N2 List.mem_cons_self (InstAt.of_exc0 N2 (List.mem_cons_of_mem _ List.mem_cons_self)) T.cst T.sup T.subV (by decide) (fun q h3 F3 N3 l3 => ?_)
  show wpAny _ _ _ _ _ (⟨h3, g, d, _, os⟩ : Shared)
  have ltq : x < q := l3 _ (List.mem_cons_of_mem _ List.mem_cons_self)
  refine kxs_callWith1 N3 List.mem_cons_self ?_
  refine spliced_cons ?_
  refine wpAny_Call_Name_kw (Name_function_global rfl rfl (loadGlobal_builtin (G.g.keeps F3.keep) G.s2 (hB.keeps F3.keep) hb2 ?_))
  refine callWith_type1 (spliced_cons (wpAny_Name (wpAny_loadName_local rfl rfl F3.ns (v := .int v tv) rfl (spliced_nil ?_)) (by decide)))
  refine PySem.P.str_of_int hv (spliced_nil ⟨kxs_at N3 List.mem_cons_self, ?_⟩)
  refine kxs_call F3 X N3 PySem.F.excBase_ValueError T.exi List.mem_cons_self (.tail (Nat.ne_of_gt ltq) (.tail (Nat.ne_of_gt ltx) (.head (fun _ z => nomatch z)))) (by rw [sizeLine_eq]; show 1 ≤ 16777216; decide) (fun t' h4 F4 N4 l4 => ?_)
  show PySem.wpAt _ _ _ _ _ _ (⟨h4, g, d, _, os⟩ : Shared)
  refine ks_wpAt_execs_cons (wpAt_of_wpAny (plainObj_wpAny_Assign_Attribute ?_))
  refine wpAny_Name (wpAny_loadName_local rfl rfl F4.ns (v := .int v tv) rfl ?_) (by decide)
  refine wpAny_Name (wpAny_loadName_local rfl rfl F4.ns (v := .ref x) rfl ?_) (by decide)
  have J := InstAt.of_exc0 N4 (x := x) (C := C) (t := t') (c2 := .none) (List.mem_cons_of_mem _ (List.mem_cons_of_mem _ (List.mem_cons_of_mem _ List.mem_cons_self)))
  refine set_plain (X.keeps F4.keep) J T.sa (exc_osa (X.keeps F4.keep) J.at_ hcl hbm rfl T.noAt (fun h' tk' dx k' dn dne hx' hns' => ?_))
  show PySem.wpAt _ _ _ _ _ _ (⟨h', g, d, _, os⟩ : Shared)
  have xh : ∀ b o, hp.get? b = some o → b ≠ x := fun b o e z => by rw [z, hxn] at e; cases e
  exact wpAt_of_wpAny (wpAny_execs_nil (hq h' _ dx ⟨fun b o e => k' b o (xh b o e) (F4.keep b o e), ⟨_, hx'⟩, Nat.le_trans hsz (Nat.le_trans (Nat.le_of_lt F4.ns.lt) dn), dne, hns'⟩))
/-- a made CourseLost -/
structure LostMade (h h' : Heap) (e C d : Addr) (v : Value) : Prop where
  keep : ∀ b o, h.get? b = some o → h'.get? b = some o
  new : h.objs.size ≤ e
  obj : ∃ oe vs, h'.get? e = some oe ∧ oe.cls = .ref C ∧ oe.dict = some d ∧ oe.data = .fields vs ∧ vs[1]? = some .none
  dbig : h.objs.size ≤ d
  dne : d ≠ e
  ns : h'.Ns1 d (fun y => if y = "at" then some v else none)
theorem lost_made (T : Lost K C fI) (P : PrOk prog) {v : Int} {tv : Tok} (X : K.In h0) (G : GlbOk h0 mg) (hlim : h0.NoLimit) (hroom : A.depth + 1 < recursionLimit) (hv : v.natAbs.log2 < 1920)
    (hq : ∀ h' tk e dx, LostMade h0 h' e C dx (.int v tv) → R (.ok (.ret (.ref e))) ⟨h', g, d, tk, os⟩) :
    codeAny (model prog w) A (.call (.ref C) ⟨[.int v tv], []⟩) R ⟨h0, g, d, t, os⟩ := by
  obtain ⟨nm, q, N, bs, bm, sn, sub, ab, col, dd, k0, k1, k2, k3, k5, hC, hbm⟩ := T.cls
  have k : ∀ b o, h0.get? b = some o → ((h0.push (kdv_tup [.int v tv])).push (excO C h0.objs.size)).get? b = some o := fun b o e => Heap.get?_push_of_some _ (Heap.get?_push_of_some _ e)
  have hget : ((h0.push (kdv_tup [.int v tv])).push (excO C h0.objs.size)).get? (h0.objs.size + 1) = some (excO C h0.objs.size) := by heap_get
  have hno : h0.get? (h0.objs.size + 1) = none := by
    cases e : h0.get? (h0.objs.size + 1) with
    | none => rfl
    | some o => exact absurd (Nat.lt_of_succ_lt (Heap.lt_size e)) (Nat.lt_irrefl _)
  have hsz : h0.objs.size ≤ ((h0.push (kdv_tup [.int v tv])).push (excO C h0.objs.size)).objs.size := Nat.le_of_lt (Nat.lt_of_succ_lt (Heap.lt_size hget))
  refine call_own PySem.F.excBase_ValueError (fun X => refsVE_contains X bm hbm) (X _ _ hC) (looks_findIn X T.ini) (fun self => bind_fn X self T.ty) (by rw [sizeLine_eq]; show 1 ≤ 16777216; decide) ?_
  refine lost_init T P X G hlim hroom hv k hget hno hsz fun h' tk' dx E => ⟨rfl, ?_⟩
  obtain ⟨t1, ho⟩ := E.obj
  exact hq h' tk' (h0.objs.size + 1) dx ⟨E.keep, Nat.le_succ _, ⟨_, _, ho, rfl, rfl, rfl, rfl⟩, E.dbig, E.dne, E.ns⟩
end
/-! ### the rule -/
theorem relO_at {v : V} {v' : Value} (r : RelV v v') (f : Str) : RelO (List.lookup f [(("at" : Str), v)]) (if f = "at" then some v' else none) := by
  rw [lookup_put]
  by_cases hw : f = "at"
  · rw [if_pos hw, if_pos hw]
    exact r
  · rw [if_neg hw, if_neg hw]
    exact True.intro
/-- CourseLost(e) -/
def tMkLost (C : Addr) (ta : TA) : L2.St → Hp → XK → Prop := fun σ H Q => ta σ H fun vs H1 => ∃ z : Int, vs = [.int z] ∧ z.natAbs.log2 < 1920 ∧ ∀ d, H1 d = none → Q (.ref C) (some d) (upd H1 d (.xd [(("at" : Str), .int z)]))
theorem pmk_lost {X : Cx} {C fI : Addr} {a : Expr} {ta : TA} {p pos : Pos} {k : Nat} (T : Lost X.K C fI) (P : PrOk X.prog) (s1 : X.mg "super" = none) (s2 : X.mg "str" = none) (gC : X.mg "CourseLost" = some (.ref C)) (hr : Room k X.A) (ha : PA X [a] ta) (hg : Gl X "CourseLost" := by rfl)
    (he : starEach (a :: []) X.env = (false, eval a X.env) :: starEach [] X.env := by rfl) (hpl : (backTo pos (starEach [] X.env)).any (·.1) = false := by rfl) :
    PMk X (.Call (.Name "CourseLost" p) [a] [] pos) (tMkLost C ta) := by
  intro pins s σ H Q I h
  refine wpAny_Call_Name_kw (ld_glob I hg gC ?_)
  refine PySem.W.callWith_K (h₀ := X.base) I.ok.mod.kin T.kp (thn (ha.run pos pins s σ H _ I h) fun us sx hh => ?_) he hpl
  obtain ⟨vs, H1, I1, r1, z, ev, hz, q1⟩ := hh
  subst ev
  refine ⟨I1.kIn, ?_⟩
  cases r1 with
  | cons rv rn =>
    rename_i v' us'
    cases rn
    obtain ⟨tv, rfl⟩ := rv
    show wpAny _ _ (call (.ref C) [.int z tv]) _ _ _
    have hlim := I1.nolimit
    have G : GlbOk sx.heap X.mg := by
      obtain ⟨mb, b1, b2⟩ := I1.mod.blt
      exact ⟨I1.mod.glob.keeps I1.bk, ⟨mb, b1.keeps I1.bk, (b2 _ (by decide)).trans (by decide +kernel), (b2 _ (by decide)).trans (by decide +kernel)⟩, s1, s2⟩
    have hin := I1.kIn
    obtain ⟨hp, g, dr, tk, os⟩ := sx
    refine wpAny_call (lost_made T P hin G hlim (by have := hr.dp; omega) hz fun h' tk' e d M => ?_)
    show MkP X pins σ Q (.ref e) ⟨h', g, dr, tk', os⟩
    obtain ⟨oe, fv, hoe, hc, hd, hdat, h1⟩ := M.obj
    have hns := M.ns
    obtain ⟨G', g1, g2⟩ := restrict h' fun b => decide (b ≠ e)
    have gk : ∀ b, b ≠ e → G'.get? b = h'.get? b := fun b hb => g1 b (decide_eq_true hb)
    have ge : G'.get? e = none := g2 e (by simp)
    have old : ∀ b o, hp.get? b = some o → G'.get? b = some o := fun b o q => (gk b (Nat.ne_of_lt (Nat.lt_of_lt_of_le (Heap.lt_size q) M.new))).trans (M.keep b o q)
    have ob : ObjOk X.prog X.w (upd H1 d (.xd [(("at" : Str), .int z)])) G' d (.xd [(("at" : Str), .int z)]) :=
      ⟨_, hns.at (fun o q => (gk d M.dne).trans q), fun f => relO_at (v := .int z) ⟨tv, rfl⟩ f⟩
    have J : Inv X pins σ (upd H1 d (.xd [(("at" : Str), .int z)])) ⟨G', g, dr, tk', os⟩ := I1.laid (t' := tk') old M.dbig ob
    refine ⟨e, oe, fv, ⟨G', g, dr, tk', os⟩, _, .ref C, some d, rfl, J, fun b o q => ?_, ge, hoe, ⟨hc, hd⟩, hdat, h1, ?_, rfl, I1.bare, raises_own T.exb T.tyC, q1 d (I1.hok.fresh M.dbig)⟩
    · by_cases hb : b = e
      · have q' : G'.get? b = some o := q
        rw [hb, ge] at q'; cases q'
      · exact (gk b hb).symm.trans q
    · rw [upd_ne (Ne.symm M.dne)]
      exact I1.hok.fresh M.new
end Or
set_option maxHeartbeats 400000
/-! The logic with what a def lets out: raise CourseLost(e); try: x = f(..) except CourseLost: return .. -/
namespace L3
open PySem PySem.Spec PyProof.Rows L2 Or
/-- a statement, a block from a known entry -/
def SXa (X : Cx) (B0 H0 : Hp) (st : Stmt) (A N Bk Ct : Asn) (R : Ret) : Prop := ∃ t, PS X st t ∧ ∀ σ H D, A.p B0 H0 σ H → DOk B0 H0 D N Bk Ct R → t D σ H
def SXsa (X : Cx) (B0 H0 : Hp) (sts : List Stmt) (A N Bk Ct : Asn) (R : Ret) : Prop := ∃ t, PSs X sts t ∧ ∀ σ H D, A.p B0 H0 σ H → DOk B0 H0 D N Bk Ct R → t D σ H
section
variable {X : Cx} {Γ : Gm} {o : Option Own} {B0 H0 : Hp} {st : Stmt} {sts : List Stmt} {A M N Bk Ct : Asn} {R : Ret} {c e : Expr}
theorem SX.at (h : SX X st A N Bk Ct R) : SXa X B0 H0 st A N Bk Ct R := let ⟨t, p, f⟩ := h; ⟨t, p, fun σ H D a d => f B0 H0 σ H D a d⟩
theorem SXs.at (h : SXs X sts A N Bk Ct R) : SXsa X B0 H0 sts A N Bk Ct R := let ⟨t, p, f⟩ := h; ⟨t, p, fun σ H D a d => f B0 H0 σ H D a d⟩
theorem sxa_cons (h : SXa X B0 H0 st A M Bk Ct R) (h' : SXsa X B0 H0 sts M N Bk Ct R) : SXsa X B0 H0 (st :: sts) A N Bk Ct R := by
  obtain ⟨t, p, f⟩ := h
  obtain ⟨t', p', f'⟩ := h'
  exact ⟨_, pss_cons p p', fun σ H D a d => f σ H _ a ⟨fun σ' H' m => f' σ' H' D m d, d.bk, d.ct, d.rt⟩⟩
/-- if c: raise CourseLost(e), c true -/
theorem sxa_lost {W : WX} {C fI : Addr} {z : Int} {k : Nat} {pos pos1 pos2 p : Pos} (hc : X.calm = true) (tk : Takes X W) (T : Lost X.K C fI) (P : PrOk X.prog) (s1 : X.mg "super" = none) (s2 : X.mg "str" = none) (gC : X.mg "CourseLost" = some (.ref C)) (hr : Room k X.A)
    (hcond : PTX X c Γ o true) (he : PX X e Γ o (is X.K z)) (hz : z.natAbs.log2 < 1920) (hW : ∀ d σ B' H', Stp B0 H0 B' H' → W (.ref C) d σ H') (hg : Gl X "CourseLost" := by rfl)
    (hst : starEach (e :: []) X.env = (false, eval e X.env) :: starEach [] X.env := by rfl) (hpl : (backTo pos1 (starEach [] X.env)).any (·.1) = false := by rfl) :
    SXa X B0 H0 (.If c [.Raise (some (.Call (.Name "CourseLost" p) [e] [] pos1)) none pos2] [] pos) (as Γ o) N Bk Ct R := by
  obtain ⟨tc, pc, rc⟩ := hcond
  obtain ⟨ta, pa, ra⟩ := xs_cons he xs_nil hst
  refine ⟨_, ps_if pc (pss_one (ps_raise hc tk (pmk_lost T P s1 s2 gC hr pa hg hst hpl))) pss_nil, fun σ H D ⟨B, b, g, ow⟩ d => ?_⟩
  refine rc σ B H _ g fun B1 H1 t1 => iteT (ra σ B1 H1 _ (g.stp t1) fun vs B2 H2 t2 e2 => ?_)
  match vs, e2 with
  | [v], e2 =>
    have ev : v = .int z := e2.1
    subst ev
    refine ⟨z, rfl, hz, fun q hq => hW _ σ B2 _ ?_⟩
    have t3 := Bs.toStp (b.stp (t1.trans t2)) t2.bh
    have sm : Same H2 (upd H2 q (.xd [(("at" : Str), .int z)])) := fun a u e => by rw [upd_ne (ne_of_none e hq)]; exact e
    exact ⟨t3.bb, t3.bh.trans sm, t3.hh.trans sm, t3.fr⟩
/-- try: nm = f(..) except CourseLost: return .. -/
theorem sx_tryC {C f : Addr} {fd : FuncData} {ps : List Str} {sp : Sp} {k n2 : Nat} {x nm : Str} {es : List Expr} {As : List MP} {RR : MP} {α : Type} [Rep α] {ans : Bool} {L : Prop} {p p1 np pos spos pos3 pos4 pos5 tpos : Pos} (i : Nat) (nd : X.N.Nodup)
    (F : FnOk X.prog X.w X.K X.mg X.base (L2.CX X.prog X.w) k f fd ps sp) (hr : Room k X.A) (hm : X.mg x = some (.ref f)) (hk : PySem.W.keepIn X.K (.ref f) = true) (hb : Binds X.K fd ps []) (gC : X.mg "CourseLost" = some (.ref C)) (te : PySem.W.exmOne X.K (.ref C) (.ref C) = some true)
    (ha : ∀ pn xe, PAX (X.tr pn xe) (e :: es) Γ none As)
    (hsp : ∀ vs B H Q E, Same B H → AllR As B vs → (L → ∀ d B' H', Stp B H B' H' → E (.ref C) d H') → (¬ L → ∀ v B' H', Stp B H B' H' → RR.p B' v → Q v H') → sp vs H Q E) (hans : L → ans = true)
    (hg : Gl X x := by rfl) (hgC : Gl X "CourseLost" := by rfl) (hdb : (x == ("__debug__" : Str)) = false := by decide) (hst : starEach (e :: es) X.env = (false, eval e X.env) :: starEach es X.env := by rfl) (hpl : (backTo pos (starEach es X.env)).any (·.1) = false := by rfl)
    (hs : X.stack = X.env :: X.outer := by rfl) (hf : X.env.frame = some X.env.locals := by rfl) (hi : X.N[i]? = some nm := by rfl) (hx : Loc X.env.scope nm := by first | exact Or.inl rfl | exact Or.inr rfl) (hl : i < Γ.length := by exact Nat.lt_of_succ_le (Nat.le_of_ble_eq_true rfl))
    (hsw : swapsWith (.Call (.Name x p) (e :: es) [] pos) (some (.Name nm p1)) spos.line X.env = pure false := by rfl) (hfn : X.fn nm = true ∨ X.env.scope.names.lookup nm = some .local := by first | exact .inl rfl | exact .inr rfl) :
    SX X (.Try [.Assign [.Name nm p1] (.Call (.Name x p) (e :: es) [] pos) spos] [.ExceptHandler (some (.Name "CourseLost" np)) none [.Return (some (.Constant (.bool true) n2 pos3)) pos4] pos5] [] [] tpos) (as Γ none)
      (exA (fun _ : Unit => ¬ L) fun _ => as (Γ.set i (some RR)) none) Bk Ct (retV (is X.K ans)) := by
  have pw : ∀ (pn : List (Addr × Obj)) (xe : Value → Shared → Prop), PA (X.tr pn xe) (e :: es) (fun σ H Q => ∃ Γ o Rs B, (∀ pn xe, PAX (X.tr pn xe) (e :: es) Γ o Rs) ∧ Good Γ o σ B H ∧ ∀ vs B' H', Stp B H B' H' → AllR Rs B' vs → Q vs H') := fun pn xe =>
    ⟨fun pos pins s σ H Q I ⟨Γ, o, Rs, B, hh, g, kk⟩ => by
      obtain ⟨t, pp, ff⟩ := hh pn xe
      exact pp.run pos pins s σ H Q I (ff σ B H Q g kk)⟩
  refine ⟨_, ps_try_only (c := .ref C) (tb := fun W => tAsg (tCallS sp (WE W) _) (gName i)) (ts := fun _ _ _ => tRet (tC (.bl true))) (Wout := fun _ _ _ _ => False) hs hf ⟨hgC, by decide, .inl gC⟩ takes0
    (fun W pn xe tk _ => pss_one (ps_set (X := X.tr pn xe) (i := i) nd hi hx (pe_callS F hr hg hm hk hb (fun σ => passAt tk σ) (pw pn xe) hdb hst hpl) hsw hfn)) (fun a oe cls d pn hz hff => pss_one (ps_ret pe_bl)), fun B0 H0 σ H D ⟨B, b, g, ow⟩ d => ?_⟩
  refine ⟨Γ, none, As, B, ha, g, fun vs B1 H1 t1 rv => hsp vs B1 H1 _ _ t1.bh rv (fun hL q B2 H2 t2 => ?_) (fun hL v B2 H2 t2 hv => ?_)⟩
  · refine ⟨true, te, fun _ a na => ?_, fun z => nomatch z⟩
    refine d.rt _ σ H2 ⟨B2, b.stp (t1.trans t2), t2.bh, ?_⟩
    rw [hans hL]
    rfl
  · exact d.nx _ _ ⟨(), hL, B2, b.stp (t1.trans t2), (g.stp (t1.trans t2)).set hv no_own hl, fun _ _ z => by cases z⟩
end
end L3
set_option maxHeartbeats 400000
namespace Or
open PySem PySem.Spec PyProof.Rows L2 L3
local macro_rules | `(tactic| walk_at "gle") => `(tactic| (repeat (first | exact GLe.nil | refine GLe.keep ?_ | refine GLe.drop ?_)))
theorem go_len {b : Body} {c : Craft} : ∀ (n : Nat) (t : Int) (ms : List Moment) (cur : Moment), ms.length ≤ (journeyGo b c n t ms cur).moments.length ∧ (journeyGo b c n t ms cur).moments.length ≤ ms.length + n
  | 0, t, ms, cur => ⟨Nat.le_refl _, Nat.le_refl _⟩
  | n + 1, t, ms, cur => by
    unfold journeyGo
    split
    · exact ⟨Nat.le_refl _, Nat.le_add_right _ _⟩
    · split
      · exact ⟨Nat.le_refl _, Nat.le_add_right _ _⟩
      · rename_i st _ _
        have h := go_len (b := b) (c := c) n (t + 1) (ms ++ [⟨t, cutAll st (sightAt c t)⟩]) ⟨t, cutAll st (sightAt c t)⟩
        rw [List.length_append, List.length_singleton] at h
        omega
theorem go_lost {b : Body} {c : Craft} : ∀ (n : Nat) (t : Int) (ms : List Moment) (cur : Moment), (journeyGo b c n t ms cur).ending = "lost" → ∃ z, (journeyGo b c n t ms cur).broken = some z ∧ t ≤ z ∧ z < t + n
  | 0, t, ms, cur, h => absurd (show ("whole" : Str) = "lost" from h) (by decide)
  | n + 1, t, ms, cur, h => by
    unfold journeyGo at h ⊢
    split at h
    · exact ⟨t, rfl, Int.le_refl _, by omega⟩
    · rename_i st e
      split at h
      · exact absurd (show ("void" : Str) = "lost" from h) (by decide)
      · rename_i hz
        rw [if_neg hz]
        obtain ⟨z, h1, h2, h3⟩ := go_lost n _ _ _ h
        exact ⟨z, h1, by omega, by omega⟩
theorem journey_len {b : Body} {fine u : Int} {c : Craft} (h0 : c.start ≤ u) (hv : (journey b fine c u).ending ≠ "void") : 0 < (journey b fine c u).moments.length ∧ (journey b fine c u).moments.length ≤ 1 + (u - c.start).toNat := by
  unfold journey at hv ⊢
  rw [if_neg (by omega)] at hv ⊢
  split at hv
  · exact absurd rfl hv
  · rename_i hz
    rw [if_neg hz]
    have h := go_len (b := b) (c := c) (u - c.start).toNat (c.start + 1) [⟨c.start, firstStates fine c⟩] ⟨c.start, firstStates fine c⟩
    have e1 : ([⟨c.start, firstStates fine c⟩] : List Moment).length = 1 := rfl
    rw [e1] at h
    exact ⟨by omega, h.2⟩
theorem journey_lost {b : Body} {fine u : Int} {c : Craft} (h : (journey b fine c u).ending = "lost") : ∃ z, (journey b fine c u).broken = some z ∧ c.start ≤ z ∧ z ≤ c.start + 1 + (u - c.start).toNat := by
  unfold journey at h ⊢
  split at h
  · exact absurd (show ("whole" : Str) = "lost" from h) (by decide)
  · rename_i h1
    rw [if_neg h1]
    split at h
    · exact absurd (show ("void" : Str) = "lost" from h) (by decide)
    · rename_i h2
      rw [if_neg h2]
      obtain ⟨z, e1, e2, e3⟩ := go_lost _ _ _ _ h
      exact ⟨z, e1, by omega, by omega⟩
theorem log_sm {z : Int} (h0 : 0 ≤ z) (h1 : z < 2 ^ 60) : z.natAbs.log2 < 1920 := by
  by_cases e : z.natAbs = 0
  · rw [e]; decide
  · have : z.natAbs < 2 ^ 60 := by omega
    exact Nat.lt_trans ((Nat.log2_lt e).mpr this) (by decide)
/-- certify(contents, craft, until): the certificate, or CourseLost -/
abbrev CtA := Conts × Craft × Int
def p_certify (a : CtA) : Prop := p_journey a.1.body a.1.fine a.2.1 a.2.2 ∧ (journey a.1.body a.1.fine a.2.1 a.2.2).ending ≠ "void" ∧ a.2.1.start ≤ a.2.2
def isLost (a : CtA) : Prop := (journey a.1.body a.1.fine a.2.1 a.2.2).ending = "lost"
def certA (a : CtA) : Cert := certOf a.1 a.2.1 (journey a.1.body a.1.fine a.2.1 a.2.2)
def spCt (K : Fg) : Sp := fun vs H Q E => ∃ (a : CtA) (B : Hp), p_certify a ∧ Same B H ∧ AllR [is K a.1, is K a.2.1, is K a.2.2] B vs ∧ (isLost a → ∀ d B' H', Stp B H B' H' → E (.ref (He.ga K "CourseLost")) d H') ∧ (¬ isLost a → ∀ v B' H', Stp B H B' H' → (is K (certA a)).p B' v → Q v H')
theorem x_isSome {X : Cx} {Γ : Gm} {o : Option Own} {e : Expr} {α : Type} [Rep α] {x : Option α} {a : α} (h : PX X e Γ o (is X.K x)) (hx : x = some a) : PX X e Γ o (is X.K a) := by
  subst hx
  exact h
theorem sc_certify : FnScope ["contents", "craft", "until", "way", "moment"] ["contents", "craft", "until"] (defScope st_certify) := ⟨rfl, rfl, rfl, by decide +kernel, rfl, by decide +kernel, by decide +kernel⟩
theorem ok_certify {P : Program} {w : World} {K : Fg} {mg : Str → Option Value} {base : Heap} (T : Tx w K mg) (hP : PrOk P) : ∃ fd, FnOk P w K mg base (L2.CX P w) 8 (He.ga K "certify") fd ["contents", "craft", "until"] (spCt K) ∧ Binds K fd ["contents", "craft", "until"] [] := by
  obtain ⟨fd, F⟩ := T.fn_certify
  refine ⟨fd, ?_, F.bindsN (fun _ _ _ _ _ _ us hl => match us, hl with | [_, _, _], _ => rfl)⟩
  refine F.ok sc_certify (fun vs H Q E ⟨a, B, _, _, r, _⟩ => r.length) (fun cdv A outer s H vs Q E hr ⟨a, B, hp, hB, rr, hL, hN⟩ => ?_)
  have nd := sc_certify.nd
  obtain ⟨k, c, u⟩ := a
  obtain ⟨hj, hv, h0⟩ := hp
  have hj : p_journey k.body k.fine c u := hj
  have hv : (journey k.body k.fine c u).ending ≠ "void" := hv
  have h0 : c.start ≤ u := h0
  have hj2 := hj.2.2.2
  obtain ⟨l1, l2⟩ := journey_len h0 hv
  have hl := fun q => journey_lost (b := k.body) (fine := k.fine) (u := u) (c := c) q
  have hL : (journey k.body k.fine c u).ending = "lost" → ∀ d B' H', Stp B H B' H' → E (.ref (He.ga K "CourseLost")) d H' := hL
  have hN : ¬ (journey k.body k.fine c u).ending = "lost" → ∀ v B' H', Stp B H B' H' → (is K (certOf k c (journey k.body k.fine c u))).p B' v → Q v H' := hN
  have hj3 := hj2.2.2
  have ec : certOf k c (journey k.body k.fine c u) = ⟨k.body, k.fine, c, (journey k.body k.fine c u).moments.map (·.states)⟩ := rfl
  by_cases hlo : (journey k.body k.fine c u).ending = "lost"
  · suffices key : SXsa (cxOf (L2.CX P w) P w K mg base ["contents", "craft", "until", "way", "moment"] "certify" (defScope st_certify) (He.ga K "certify") cdv A outer s H E) B H (defBody st_certify) (as (G0 [is K k, is K c, is K u] 5) none) noA noA noA (fun _ => noA) by
      obtain ⟨t, p, f⟩ := key
      exact ⟨t, p, f _ H _ ⟨B, .refl B H, start_good (N := ["contents", "craft", "until", "way", "moment"]) (Ps := [is K k, is K c, is K u]) hB rr, fun _ _ e => by cases e⟩ ⟨fun _ _ z => z.elim, fun _ _ z => z.elim, fun _ _ z => z.elim, fun _ _ _ z => z.elim⟩⟩
    refine sxa_cons (SX.at (sx_set 3 nd (c_journey T (hr.mono (by decide)) (xs_cons (f_Contents_body T (x_var 0 rfl)) (xs_cons (f_Contents_fineness T (x_var 0 rfl)) (xs_cons (x_var 1 rfl) (xs_cons (x_var 2 rfl) xs_nil)))) hj))) ?_
    show SXsa _ _ _ _ (as [some (is K k), some (is K c), some (is K u), some (is K (journey k.body k.fine c u)), none] none) _ _ _ _
    obtain ⟨z, e1, e2, e3⟩ := hl hlo
    have hE := hL hlo
    clear hL hN hl ec
    generalize journey k.body k.fine c u = j at hv l1 l2 hlo e1 ⊢
    refine sxa_cons (SX.at (sx_if (d := false) (PTX.eq (t_eqS (f_Journey_ending T (x_var 3 rfl)) x_str) (decide_eq_false hv)) (fun h => nomatch h) (fun _ => sx_nil))) ?_
    exact sxa_cons (M := noA) (sxa_lost (W := fun cls d _ H => E cls d H) rfl (takes_of rfl rfl rfl rfl) T.lostC hP T.free_super T.free_str T.glo_CourseLost hr (PTX.eq (t_eqS (f_Journey_ending T (x_var 3 rfl)) x_str) (decide_eq_true hlo)) (x_isSome (f_Journey_broken T (x_var 3 rfl)) e1) (log_sm (by omega) (by omega)) (fun d σ B' H' st => hE _ B' H' st)) (SXs.at sxs_noA)
  · suffices key : SXsa (cxOf (L2.CX P w) P w K mg base ["contents", "craft", "until", "way", "moment"] "certify" (defScope st_certify) (He.ga K "certify") cdv A outer s H E) B H (defBody st_certify) (as (G0 [is K k, is K c, is K u] 5) none) noA noA noA (retV (is K (certOf k c (journey k.body k.fine c u)))) by
      obtain ⟨t, p, f⟩ := key
      exact ⟨t, p, f _ H _ ⟨B, .refl B H, start_good (N := ["contents", "craft", "until", "way", "moment"]) (Ps := [is K k, is K c, is K u]) hB rr, fun _ _ e => by cases e⟩ ⟨fun _ _ z => z.elim, fun _ _ z => z.elim, fun _ _ z => z.elim, fun v σ H' ⟨B', b, sb, rv⟩ => hN hlo v B' H' (b.toStp sb) rv⟩⟩
    refine sxa_cons (SX.at (sx_set 3 nd (c_journey T (hr.mono (by decide)) (xs_cons (f_Contents_body T (x_var 0 rfl)) (xs_cons (f_Contents_fineness T (x_var 0 rfl)) (xs_cons (x_var 1 rfl) (xs_cons (x_var 2 rfl) xs_nil)))) hj))) ?_
    show SXsa _ _ _ _ (as [some (is K k), some (is K c), some (is K u), some (is K (journey k.body k.fine c u)), none] none) _ _ _ _
    rw [ec]
    clear hL hN hl ec
    generalize journey k.body k.fine c u = j at hv l1 l2 hlo ⊢
    refine sxa_cons (SX.at (sx_if (d := false) (PTX.eq (t_eqS (f_Journey_ending T (x_var 3 rfl)) x_str) (decide_eq_false hv)) (fun h => nomatch h) (fun _ => sx_nil))) ?_
    refine sxa_cons (SX.at (sx_if (d := false) (PTX.eq (t_eqS (f_Journey_ending T (x_var 3 rfl)) x_str) (decide_eq_false hlo)) (fun h => nomatch h) (fun _ => sx_nil))) ?_
    refine SXs.at (sx_last (sx_retD (c_Certificate (claims := j.moments.map (·.states)) T (hr.mono (by decide)) (xs_cons (f_Contents_body T (x_var 0 rfl)) (xs_cons (f_Contents_fineness T (x_var 0 rfl)) (xs_cons (x_var 1 rfl) (xs_cons (PX.eq (x_lc [("moment", 4)] (fun _ => true) (fun m : Moment => m.states) nd (i_L (f_Journey_moments T (x_var 3 rfl))) (by omega) no_own (blkOk_by (own := [("moment", 4)]) (N := ["contents", "craft", "until", "way", "moment"]) (sc := defScope st_certify) (by decide +kernel)) (fun m hm => ⟨_, [4], by decide, fun s H C cl fp => ⟨g_name 4 nd, ts_nil, fun _ => f_Moment_states T (x_var 4 rfl)⟩⟩)) (by rw [filt_true])) xs_nil)))) (by show (List.map _ _).length ≤ 1000; rw [List.length_map]; omega)) rfl))
def PaperPre (k : Conts) (c : Craft) (mot : List PV) (u : Int) : Prop := p_journey k.body k.fine c u ∧ (journey k.body k.fine c u).ending ≠ "void" ∧ MotOk mot ∧ (c.start ≤ u ∧ u - c.start < mot.length)
theorem ref_test {o : Option Int} {a b : Int} : (!o.isNone || !decide (a = b)) = (o.isSome || decide (a ≠ b)) := by
  cases o <;> simp
def pv0 : PV := ⟨⟨0, 0, 0⟩, ⟨0, 0, 0⟩⟩
def claimOk (mot : List PV) (cl : List (List State)) (z : Int) : Bool := (cl.getD z.toNat []).any fun s => sHas s (mot.getD z.toNat pv0).a (mot.getD z.toNat pv0).b
theorem claims_eq (mot : List PV) (cl : List (List State)) : claimsHold mot cl = (rngL 0 cl.length).all (claimOk mot cl) := by
  unfold claimsHold rngL
  rw [List.all_map]
  refine congrArg (fun f => (List.range cl.length).all f) (funext fun i => ?_)
  have e : ((0 : Int) + (i : Int)).toNat = i := by omega
  show _ = claimOk mot cl (0 + (i : Int))
  unfold claimOk
  rw [e]
  rfl
theorem sc__law_paper_holds : FnScope ["_law_contents", "_law_craft_here", "_law_motion_here", "_law_until", "_law_paper", "_law_k", "_law_here", "_law_fast", "_law_state"] ["_law_contents", "_law_craft_here", "_law_motion_here", "_law_until"] (defScope st__law_paper_holds) := ⟨rfl, rfl, rfl, by decide +kernel, rfl, by decide +kernel, by decide +kernel⟩
abbrev v__law_paper_holds (l_contents : Conts) (l_craft_here : Craft) (l_motion_here : List (PV)) (l_until : Int) : Bool := paperHolds l_contents l_craft_here l_motion_here l_until
def p__law_paper_holds (l_contents : Conts) (l_craft_here : Craft) (l_motion_here : List (PV)) (l_until : Int) : Prop := PaperPre l_contents l_craft_here l_motion_here l_until
theorem ok__law_paper_holds {P : Program} {w : World} {K : Fg} {mg : Str → Option Value} {base : Heap} (T : Tx w K mg) (hP : PrOk P) : Fok P w K mg base 10 "_law_paper_holds" ["_law_contents", "_law_craft_here", "_law_motion_here", "_law_until"] (spF (fun a : Conts × Craft × List (PV) × Int => p__law_paper_holds a.1 a.2.1 a.2.2.1 a.2.2.2) (fun a : Conts × Craft × List (PV) × Int => [is K a.1, is K a.2.1, is K a.2.2.1, is K a.2.2.2]) fun a => is K (v__law_paper_holds a.1 a.2.1 a.2.2.1 a.2.2.2)) := by
  refine fokR T.fn__law_paper_holds T.glo__law_paper_holds (fun _ _ _ _ _ _ us hl => match us, hl with | [_, _, _, _], _ => rfl) sc__law_paper_holds (fun _ => rfl) fun cdv A outer s H E hr a hp => ?_
  obtain ⟨l_contents, l_craft_here, l_motion_here, l_until⟩ := a
  have nd := sc__law_paper_holds.nd
  have hp : p__law_paper_holds l_contents l_craft_here l_motion_here l_until := hp
  show SXs _ _ (as (G0 [is K l_contents, is K l_craft_here, is K l_motion_here, is K l_until] _) none) _ _ _ (retV (is K (v__law_paper_holds l_contents l_craft_here l_motion_here l_until)))
  obtain ⟨hj, hv, hm, h0, h1⟩ := hp
  obtain ⟨fd, F, bd⟩ := ok_certify (P := P) (w := w) (base := base) T hP
  obtain ⟨_, FF⟩ := T.fn_certify
  have hj2 := hj.2.2.2
  have hj3 := hj2.2.2
  have hj4 := hj.2.1
  have hml := hm.len
  obtain ⟨l1, l2⟩ := journey_len h0 hv
  have hmk := journey_mem (b := l_contents.body) (fine := l_contents.fine) (u := l_until) hj.2.2.1
  have ev : v__law_paper_holds l_contents l_craft_here l_motion_here l_until = if (journey l_contents.body l_contents.fine l_craft_here l_until).ending = "lost" then true
    else if (refusedAt (certA (l_contents, l_craft_here, l_until))).isSome || decide (((certA (l_contents, l_craft_here, l_until)).claims.length : Int) ≠ l_until - l_craft_here.start + 1) then false
    else claimsHold l_motion_here (certA (l_contents, l_craft_here, l_until)).claims := rfl
  refine sx_cons (sx_tryC (α := Bool) (L := isLost (l_contents, l_craft_here, l_until)) (RR := is K (certA (l_contents, l_craft_here, l_until))) (ans := v__law_paper_holds l_contents l_craft_here l_motion_here l_until) 4 nd F (hr.mono (by decide)) T.glo_certify FF.kp bd T.glo_CourseLost T.lostC.te (fun pn xe => xs_cons (x_var 0 rfl) (xs_cons (x_var 1 rfl) (xs_cons (x_var 3 rfl) xs_nil))) (fun vs B H Q E hB rr hL hN => ⟨(l_contents, l_craft_here, l_until), B, ⟨hj, hv, h0⟩, hB, rr, hL, hN⟩) (fun hL => by rw [ev]; exact if_pos hL)) (sx_ex fun _ hnl => ?_)
  have hnl : ¬ (journey l_contents.body l_contents.fine l_craft_here l_until).ending = "lost" := hnl
  rw [if_neg hnl] at ev
  show SXs _ _ (as [some (is K l_contents), some (is K l_craft_here), some (is K l_motion_here), some (is K l_until), some (is K (certA (l_contents, l_craft_here, l_until))), none, none, none, none] none) _ _ _ _
  have c1 : (certA (l_contents, l_craft_here, l_until)).body = l_contents.body := rfl
  have c2 : (certA (l_contents, l_craft_here, l_until)).fine = l_contents.fine := rfl
  have c3 : (certA (l_contents, l_craft_here, l_until)).claims = (journey l_contents.body l_contents.fine l_craft_here l_until).moments.map (·.states) := rfl
  have c4 : ∀ l ∈ (certA (l_contents, l_craft_here, l_until)).claims, (∀ s ∈ l, SOk s) ∧ l.length ≤ 64 := fun l hl => by
    rw [c3] at hl
    obtain ⟨m, hm1, hm2⟩ := List.mem_map.mp hl
    have q := hmk m hm1
    rw [← hm2]
    refine ⟨q.ok, Nat.le_trans q.len (Nat.le_trans (Nat.pow_le_pow_right (by decide) (show l_contents.fine.toNat ≤ 6 by omega)) (by decide))⟩
  have c5 : (certA (l_contents, l_craft_here, l_until)).claims.length = (journey l_contents.body l_contents.fine l_craft_here l_until).moments.length := by rw [c3, List.length_map]
  rw [← c5] at l1 l2
  generalize certA (l_contents, l_craft_here, l_until) = cert at l1 l2 ev c1 c2 c4 ⊢
  have hcl : (cert.claims.length : Int) ≤ 1 + (l_until - l_craft_here.start) := by omega
  refine sx_ifx (t_w (w_or (t_notNo (c_refused_at T (hr.mono (by decide)) (xs_cons (x_var 4 rfl) xs_nil) ⟨c1 ▸ hj.1, c2 ▸ hj.2.1, ⟨l1, by omega⟩, fun l hl s hs => (c4 l hl).1 s hs⟩)) fun _ => w_or1 (t_ne (x_lenL T.free_len (xs_cons (f_Certificate_claims T (x_var 4 rfl)) xs_nil)) (x_add (x_sub (x_var 3 rfl) (f_Craft_start T (x_var 1 rfl))) x_int)))) (fun h => ?_) (fun h => ?_)
  · refine sx_last (sx_retD x_bl ?_)
    rw [ev]
    refine (if_pos ?_).symm
    exact (ref_test (o := refusedAt cert)).symm.trans h
  · have ev : v__law_paper_holds l_contents l_craft_here l_motion_here l_until = (rngL 0 cert.claims.length).all (claimOk l_motion_here cert.claims) := by
      rw [ev, ← claims_eq]
      refine if_neg ?_
      rw [show ((refusedAt cert).isSome || decide ((cert.claims.length : Int) ≠ l_until - l_craft_here.start + 1)) = false from (ref_test (o := refusedAt cert)).symm.trans h]
      exact Bool.false_ne_true
    refine sx_forU (ι := Unit) (rngL 0 (cert.claims.length : Int).toNat) (fun _ _ => []) (fun _ _ => none) (fun k _ => ∀ (i : Nat) (z : Int), i < k → (rngL 0 cert.claims.length)[i]? = some z → claimOk l_motion_here cert.claims z = true) () (i_rng1 T.free_range (xs_cons (x_lenL T.free_len (xs_cons (f_Certificate_claims T (x_var 4 rfl)) xs_nil)) xs_nil) (by omega)) (fun j z h => absurd h (Nat.not_lt_zero j)) (by walk_at "gle") rfl (fun k _ a ha hk => ?_) (fun _ hk => ?_)
    · rw [Int.toNat_natCast] at ha
      obtain ⟨hk1, e⟩ := rngL_get ha
      have a0 : 0 ≤ a := by omega
      have a1 : a < (cert.claims.length : Int) := by omega
      have a2 : a < (l_motion_here.length : Int) := by omega
      have hlen := (c4 _ (List.mem_of_getElem? (List.getElem?_eq_getElem (show a.toNat < cert.claims.length by omega)))).2
      refine ⟨_, [5], g_name 5 nd, no_own, ?_⟩
      have ec : claimOk l_motion_here cert.claims a = (cert.claims.getD a.toNat []).any fun s => sHas s (l_motion_here.getD a.toNat pv0).a (l_motion_here.getD a.toNat pv0).b := rfl
      have hg : cert.claims[a.toNat]? = some (cert.claims.getD a.toNat []) := by
        rw [List.getD_eq_getElem?_getD, List.getElem?_eq_getElem (show a.toNat < cert.claims.length by omega)]
        rfl
      have hg2 : l_motion_here[a.toNat]? = some (l_motion_here.getD a.toNat pv0) := mot_get (show a.toNat < l_motion_here.length by omega)
      have hlen : (cert.claims.getD a.toNat []).length ≤ 64 := (c4 _ (List.mem_of_getElem? hg)).2
      generalize cert.claims.getD a.toNat [] = sts at ec hg hlen
      generalize l_motion_here.getD a.toNat pv0 = pv at ec hg2
      refine sx_cons (sx_asg (P := tupOf _ [is _ pv.a, is _ pv.b]) (xLv (x_var 2 rfl) (x_var 5 rfl) (ixN_in a0 a2) hg2) (g_tup rfl (gs_cons (g_name 6 nd) (gs_cons (g_name 7 nd) gs_nil)) rfl) no_own) ?_
      show SXs _ _ (as [some (is K l_contents), some (is K l_craft_here), some (is K l_motion_here), some (is K l_until), some (is K cert), some (is K a), some (is K pv.a), some (is K pv.b), none] none) _ _ _ _
      generalize pv.a = p at ec ⊢
      generalize pv.b = v at ec ⊢
      rw [any_of_len] at ec
      refine sx_ifx (t_eq (x_sumL T.free_sum (xs_cons (PX.eq (x_lc [("_law_state", 8)] (fun s => sHas s p v) (fun _ : State => (1 : Int)) nd (i_L (xLv (f_Certificate_claims T (x_var 4 rfl)) (x_var 5 rfl) (ixN_in a0 a1) hg)) (by omega) no_own (blkOk_by (own := [("_law_state", 8)]) (N := ["_law_contents", "_law_craft_here", "_law_motion_here", "_law_until", "_law_paper", "_law_k", "_law_here", "_law_fast", "_law_state"]) (sc := defScope st__law_paper_holds) (by decide +kernel)) (fun s hs => ⟨_, [8], by decide, fun s H C cl fp => ⟨g_name 8 nd, ts_one (t_val (c_state_has T (hr.mono (by decide)) (xs_cons (x_var 8 rfl) (xs_cons (x_var 6 rfl) (xs_cons (x_var 7 rfl) xs_nil))))), fun _ => x_int⟩⟩)) rfl) xs_nil)) x_int) (fun h => ?_) (fun h => ?_)
      · have h := of_decide_eq_true h
        rw [sum_ones] at h
        rw [decide_eq_false (by omega)] at ec
        exact sx_last (sx_retD x_bl (ev.trans (all_no ha ec)).symm)
      · have h := of_decide_eq_false h
        rw [sum_ones] at h
        rw [decide_eq_true (by omega)] at ec
        exact sx_endU () (upto1 ha ec hk) (by walk_at "gle") rfl
    · exact sx_last (sx_retD x_bl (ev.trans (all_of fun i z hz => hk i z (by rw [Int.toNat_natCast]; exact lt_of hz) hz)).symm)
theorem c__law_paper_holds {X : Cx} {Γ : Gm} {o : Option Own} {e1 e2 e3 e4 : Expr} {p pos : Pos} {l_contents : Conts} {l_craft_here : Craft} {l_motion_here : List (PV)} {l_until : Int} (T : Tx X.w X.K X.mg) (hP : PrOk X.prog) (hr : Room 10 X.A) (h : PAX X [e1, e2, e3, e4] Γ o [is X.K l_contents, is X.K l_craft_here, is X.K l_motion_here, is X.K l_until]) (hp : p__law_paper_holds l_contents l_craft_here l_motion_here l_until) (hg : Gl X "_law_paper_holds" := by rfl) (he : starEach [e1, e2, e3, e4] X.env = (false, eval e1 X.env) :: starEach [e2, e3, e4] X.env := by rfl) (hpl : (backTo pos (starEach [e2, e3, e4] X.env)).any (·.1) = false := by rfl) : PX X (.Call (.Name "_law_paper_holds" p) [e1, e2, e3, e4] [] pos) Γ o (is X.K (v__law_paper_holds l_contents l_craft_here l_motion_here l_until)) := x_callF (ok__law_paper_holds T hP) hr (l_contents, l_craft_here, l_motion_here, l_until) hp h rfl hg (by decide) he hpl
end Or
set_option maxHeartbeats 400000
namespace Or
open PySem PySem.Spec PyProof.Rows L2 L3
local macro_rules | `(tactic| walk_at "gle") => `(tactic| (repeat (first | exact GLe.nil | refine GLe.keep ?_ | refine GLe.drop ?_)))
section
variable {X : Cx} {Γ : Gm} {e1 : Expr} {pos pos' apos np p npos spos : Pos} {x nm : Str} {y : Addr} {Bk Ct : Asn} {Rt : Ret}
/-- x = Catalogue(e) -/
theorem sx_book (i : Nat) (nd : X.N.Nodup) (T : Tx X.w X.K X.mg) (hr : Room 2 X.A) {k : Conts} (h : PAX X [e1] Γ none [is X.K k]) (hg : Gl X "Catalogue" := by rfl)
    (he : starEach [e1] X.env = (false, eval e1 X.env) :: starEach [] X.env := by rfl) (hpl : (backTo pos (starEach [] X.env)).any (·.1) = false := by rfl)
    (hi : X.N[i]? = some nm := by rfl) (hx : Loc X.env.scope nm := by first | exact Or.inl rfl | exact Or.inr rfl) (hl : i < Γ.length := by exact Nat.lt_of_succ_le (Nat.le_of_ble_eq_true rfl)) (hs : swapsWith (.Call (.Name "Catalogue" p) [e1] [] pos) (some (.Name nm npos)) spos.line X.env = pure false := by rfl)
    (hf : X.fn nm = true ∨ X.env.scope.names.lookup nm = some .local := by first | exact .inl rfl | exact .inr rfl) :
    SX X (.Assign [.Name nm npos] (.Call (.Name "Catalogue" p) [e1] [] pos) spos) (as Γ none) (exA (fun _ : Addr => True) fun y => as (Γ.set i none) (some (ownI y (He.ga X.K "Catalogue") i (fCat X.K k 0 [])))) Bk Ct Rt :=
  let G := ok_Catalogue (P := X.prog) (base := X.base) T
  let ⟨fd, ds, F, hd, b⟩ := G.ex
  sx_make (Ds := []) i nd G.mkr F hr G.mg b hd trivial k trivial h rfl hg (by decide) he hpl hi hx hl hs hf
/-- book.edit(e) -/
theorem sx_edit (i : Nat) (T : Tx X.w X.K X.mg) (hr : Room 9 X.A) (a : EdA) (ha : preEd a) (h : PAX X [e1] Γ (some (ownI y (He.ga X.K "Catalogue") i (fCat X.K a.k a.v a.er))) [is X.K a.e]) {pl : Sem Bool} (hN : X.N[i]? = some x := by rfl) (hv : Vis X.env.scope x := by first | exact Or.inl rfl | exact Or.inr (Or.inl rfl))
    (hd : (x == ("__debug__" : Str)) = false := by decide) (hcd : (x == ("__classdict__" : Str)) = false := by decide)
    (ht : eval (.Call (.Attribute (.Name x np) "edit" apos) [e1] [] pos') X.env = (do
      let ov ← eval (.Name x np) X.env
      standAt apos.atName
      let (f, first) ← holding [ov] (getMethod ov "edit" pl)
      callWith pos' f first (backTo pos' (starEach [e1] X.env)) (backToKw pos' (keywordEach [] X.env))) := by rfl)
    (hpl : (backTo pos' (starEach [] X.env)).any (·.1) = false := by rfl) (he : starEach [e1] X.env = (false, eval e1 X.env) :: starEach [] X.env := by rfl) (hs : swapsWith (.Call (.Attribute (.Name x np) "edit" apos) [e1] [] pos') none pos.line X.env = pure false := by rfl) :
    SX X (.Expr (.Call (.Attribute (.Name x np) "edit" apos) [e1] [] pos') pos) (as Γ (some (ownI y (He.ga X.K "Catalogue") i (fCat X.K a.k a.v a.er)))) (as Γ (some (ownI y (He.ga X.K "Catalogue") i (fCat X.K (applyE a.k a.e) (a.v + 1) (a.er ++ [a.k]))))) Bk Ct Rt :=
  let ⟨fd, F, b⟩ := ok_edit (P := X.prog) (base := X.base) T
  sx_ocall (F0 := fun a : EdA => fCat X.K a.k a.v a.er) (F1 := fun a : EdA => fCat X.K (applyE a.k a.e) (a.v + 1) (a.er ++ [a.k])) T.cls_Catalogue T.meth_Catalogue_edit F hr b a ha (by rfl) h rfl hN hv hd hcd ht hpl he hs
/-- book.undo() -/
theorem sx_undo (i : Nat) (T : Tx X.w X.K X.mg) (hr : Room 5 X.A) (a : UnA) (ha : preUn a) {pl : Sem Bool} (hN : X.N[i]? = some x := by rfl) (hv : Vis X.env.scope x := by first | exact Or.inl rfl | exact Or.inr (Or.inl rfl))
    (hd : (x == ("__debug__" : Str)) = false := by decide) (hcd : (x == ("__classdict__" : Str)) = false := by decide)
    (ht : eval (.Call (.Attribute (.Name x np) "undo" apos) [] [] pos') X.env = (do
      let ov ← eval (.Name x np) X.env
      standAt apos.atName
      let (f, first) ← holding [ov] (getMethod ov "undo" pl)
      callWith pos' f first (backTo pos' (starEach [] X.env)) (backToKw pos' (keywordEach [] X.env))) := by rfl)
    (hs : swapsWith (.Call (.Attribute (.Name x np) "undo" apos) [] [] pos') none pos.line X.env = pure false := by rfl) :
    SX X (.Expr (.Call (.Attribute (.Name x np) "undo" apos) [] [] pos') pos) (as Γ (some (ownI y (He.ga X.K "Catalogue") i (fCat X.K a.k a.v (a.er ++ [a.b]))))) (as Γ (some (ownI y (He.ga X.K "Catalogue") i (fCat X.K a.b (a.v + 1) a.er)))) Bk Ct Rt :=
  let ⟨fd, F, b⟩ := ok_undo (P := X.prog) (base := X.base) T
  sx_ocall0 (F0 := fun a : UnA => fCat X.K a.k a.v (a.er ++ [a.b])) (F1 := fun a : UnA => fCat X.K a.b (a.v + 1) a.er) T.cls_Catalogue T.meth_Catalogue_undo F hr b a ha (by rfl) rfl hN hv hd hcd ht hs
end
theorem mot_two (s : List Int) : ∀ m ∈ ([oneOf s, otherOf s] : List (List PV)), MotOk m := fun m hm => by
  rcases List.mem_cons.mp hm with e | hm
  · rw [e]; exact one_ok s
  · rw [List.mem_singleton.mp hm]; exact other_ok s
/-- the book's state -/
structure BS where
  k : Conts
  v : Int
  er : List Conts
def stage (s : List Int) : Nat → Conts
  | 0 => kOf s []
  | 1 => kOf s [aWith s (firstOf s).burns.l.length]
  | _ => kOf s [aWith s (firstOf s).burns.l.length, b0 s]
theorem nburns (s : List Int) : (firstOf s).burns.l.length ≤ 2 := by
  have w := world_ok s
  show (List.map _ _).length ≤ 2
  rw [List.length_map]
  exact w.bl
/-- one craft filled in -/
theorem fill_key {s : List Int} {i : Nat} {a : Craft} {k : Conts} (ha : ([firstOf s, secondOf s] : List Craft)[i]? = some a) (h1 : k = stage s i) :
    ∃ f : Nat → Conts, f 0 = applyE k (.addCraft a) ∧ EOk k (.addCraft a) ∧ i ≤ 1 ∧ (∀ j, KV (f j)) ∧ (∀ j u, a.burns.l[j]? = some u → EOk (f j) (.addBurn a.name u) ∧ applyE (f j) (.addBurn a.name u) = f (j + 1)) ∧ f a.burns.l.length = stage s (i + 1) ∧ a.burns.l.length ≤ 2 := by
  subst h1
  match i, ha with
  | 0, ha =>
    cases Option.some.inj ha
    obtain ⟨e1, e2⟩ := add_first s
    exact ⟨fun j => kOf s [aWith s j], e2.symm, e1, by decide, fun j => a_kv s j, fun j u hu => add_burn_ok s hu, rfl, nburns s⟩
  | 1, ha =>
    cases Option.some.inj ha
    obtain ⟨e1, e2⟩ := add_second s (firstOf s).burns.l.length
    exact ⟨fun j => kOf s [aWith s (firstOf s).burns.l.length, b0 s], e2.symm, e1, by decide, fun j => full_kv s _, fun j u hu => (nomatch hu), rfl, Nat.zero_le _⟩
  | n + 2, ha => cases ha
theorem bk_starts {s : List Int} {n : Nat} {k : Conts} (h : Bk s n k) : ∀ c ∈ k.crafts.l, c.start ≤ 1000 := fun c hc => by
  obtain ⟨ca, cb, rest, e, ha, hb, hr⟩ := h.cr
  have a1 := ha.s1
  have b1 := hb.s1
  rw [e] at hc
  rcases List.mem_cons.mp hc with q | hc
  · rw [q]; omega
  · rcases List.mem_cons.mp hc with q | hc
    · rw [q]; omega
    · rcases hr with rfl | ⟨cc, rfl, _, hv, h4⟩
      · cases hc
      · rw [List.mem_singleton.mp hc]; omega
/-- the craft asked about -/
theorem bk_here {s : List Int} {n : Nat} {k : Conts} (h : Bk s n k) (i : Int) (h0 : 0 ≤ i) (h1 : i < 2) : CrOk (bodyOf s) (nmOf i) (lworld s).drift (pick [oneOf s, otherOf s] i []) n (craftOf k (nmOf i)) ∧ Obeys k.body (craftOf k (nmOf i)) (pick [oneOf s, otherOf s] i []) ∧ MotOk (pick [oneOf s, otherOf s] i []) ∧ (findC k.crafts.l (nmOf i)).isSome = true := by
  have e : i = 0 ∨ i = 1 := by omega
  have eb := h.body
  rcases e with e | e <;> subst e
  · exact ⟨h.oa, by rw [eb]; exact h.oa.obeys (one_ok s).pos, one_ok s, h.fa⟩
  · exact ⟨h.ob, by rw [eb]; exact h.ob.obeys (other_ok s).pos, other_ok s, h.fb⟩
theorem add_len {er : List Conts} {k : Conts} {n : Nat} (h : er.length ≤ n) : (er ++ [k]).length ≤ n + 1 := by
  rw [List.length_append, List.length_singleton]
  omega
theorem sc_law : FnScope ["_law_script", "_law_contents", "_law_one", "_law_other", "_law_book", "_law_count", "_law_craft_here", "_law_burn", "_law_motions", "_law_drift", "_law_k", "_law_row_here", "_law_j", "_law_until", "_law_first", "_law_second"] ["_law_script"] (defScope st_law) := ⟨rfl, rfl, rfl, by decide +kernel, rfl, by decide +kernel, by decide +kernel⟩
abbrev v_law (l_script : Rdl (Int)) : Bool := true
theorem okF_law {P : Program} {w : World} {K : Fg} {mg : Str → Option Value} {base : Heap} (T : Tx w K mg) (hP : PrOk P) {fd : FuncData} (F : FunD K "law" "law" (defArgs st_law) (defBody st_law) (defScope st_law) [] [] (He.ga K "law") fd) : FnOk P w K mg base CX0 11 (He.ga K "law") fd ["_law_script"] (spF (fun a : Rdl Int => True) (fun a : Rdl Int => [is K a]) fun a => is K (v_law a)) := by
  refine fn_okR F sc_law (fun _ => rfl) fun cdv A outer s H E hr l_script hp => ?_
  have nd := sc_law.nd
  show SXs _ _ (as (G0 [is K l_script] _) none) _ _ _ (retV (is K (v_law l_script)))
  obtain ⟨s⟩ := l_script
  have w1 := world_ok s
  have m1 := one_ok s
  have m2 := other_ok s
  have nb := nburns s
  refine sx_cons (sx_asg (P := tupOf _ [is _ (contsOf s), is _ (oneOf s), is _ (otherOf s)]) (c__law_two (l_script := ⟨s⟩) T (hr.mono (by decide)) (xs_cons (x_var 0 rfl) xs_nil)) (g_tup rfl (gs_cons (g_name 1 nd) (gs_cons (g_name 2 nd) (gs_cons (g_name 3 nd) gs_nil))) rfl) no_own) ?_
  refine sx_cons (sx_book (k := kOf s []) 4 nd T (hr.mono (by decide)) (xs_cons (PX.eq (c_Contents0 T (hr.mono (by decide)) (xs_cons (f_Contents_body T (x_var 1 rfl)) (xs_cons x_int (xs_cons (f_Contents_fineness T (x_var 1 rfl)) xs_nil))) ⟨⟨by decide, by decide⟩, ⟨w1.f0, by have := w1.f1; show (lworld s).fine ≤ 6; omega⟩⟩) rfl) xs_nil)) (sx_ex fun y _ => ?_)
  refine sx_cons (sx_set 5 nd x_int) ?_
  show SXs _ _ (as [some (is K (Rdl.mk s)), some (is K (contsOf s)), some (is K (oneOf s)), some (is K (otherOf s)), none, some (is K (0 : Int)), none, none, none, none, none, none, none, none, none, none] (some (ownI y (He.ga K "Catalogue") 4 (fCat K (kOf s []) 0 [])))) _ _ _ _
  refine sx_forU (ι := BS) [firstOf s, secondOf s] (fun _ x => [(5, some (is K x.v)), (6, none), (7, none)]) (fun _ x => some (ownI y (He.ga K "Catalogue") 4 (fCat K x.k x.v x.er))) (fun i x => x.k = stage s i ∧ x.er.length ≤ 4 * i) ⟨kOf s [], 0, []⟩ ?_ ⟨rfl, Nat.le_refl _⟩ (by walk_at "gle") rfl (fun i x a ha hx => ?_) (fun x hx => ?_)
  · exact i_T (xs := (contsOf s).crafts) (f_Contents_crafts T (x_var 1 rfl))
  · obtain ⟨k, v, er⟩ := x
    obtain ⟨h1, h2⟩ := hx
    dsimp only at h1 h2
    obtain ⟨f, q0, q1, q2, q3, q4, q5, q6⟩ := fill_key ha h1
    refine ⟨_, [6], g_name 6 nd, own_ninI (by decide), ?_⟩
    show SXs _ _ (as [some (is K (Rdl.mk s)), some (is K (contsOf s)), some (is K (oneOf s)), some (is K (otherOf s)), none, some (is K v), some (is K a), none, none, none, none, none, none, none, none, none] (some (ownI y (He.ga K "Catalogue") 4 (fCat K k v er)))) _ _ _ _
    refine sx_cons (sx_edit 4 T (hr.mono (by decide)) ⟨k, v, er, .addCraft a⟩ ⟨q1.1, by have := q3 0; rw [q0] at this; exact this, q1, by show er.length ≤ 99; omega⟩ (xs_cons (PX.eq (x_t2 (xs_cons x_str (xs_cons (x_var 6 rfl) xs_nil))) rfl) xs_nil)) ?_
    show SXs _ _ (as [some (is K (Rdl.mk s)), some (is K (contsOf s)), some (is K (oneOf s)), some (is K (otherOf s)), none, some (is K v), some (is K a), none, none, none, none, none, none, none, none, none] (some (ownI y (He.ga K "Catalogue") 4 (fCat K (applyE k (.addCraft a)) (v + 1) (er ++ [k]))))) _ _ _ _
    rw [← q0]
    refine sx_forU (ι := BS) a.burns.l (fun _ _ => []) (fun _ x => some (ownI y (He.ga K "Catalogue") 4 (fCat K x.k x.v x.er))) (fun j x => x.k = f j ∧ x.v = v + 1 + (j : Int) ∧ x.er.length ≤ 4 * i + 1 + j) ⟨f 0, v + 1, er ++ [k]⟩ ?_ ⟨rfl, by show v + 1 = v + 1 + ((0 : Nat) : Int); omega, add_len h2⟩ (by walk_at "gle") rfl (fun j x u hu hx => ?_) (fun x hx => ?_)
    · exact i_T (xs := a.burns) (f_Craft_burns T (x_var 6 rfl))
    · obtain ⟨k2, v2, er2⟩ := x
      obtain ⟨g1, g2, g3⟩ := hx
      dsimp only at g1 g2 g3
      subst g1
      have hj := lt_of hu
      obtain ⟨r1, r2⟩ := q4 j u hu
      refine ⟨_, [7], g_name 7 nd, own_ninI (by decide), ?_⟩
      show SXs _ _ (as [some (is K (Rdl.mk s)), some (is K (contsOf s)), some (is K (oneOf s)), some (is K (otherOf s)), none, some (is K v), some (is K a), some (is K u), none, none, none, none, none, none, none, none] (some (ownI y (He.ga K "Catalogue") 4 (fCat K (f j) v2 er2)))) _ _ _ _
      refine sx_cons (sx_edit 4 T (hr.mono (by decide)) ⟨f j, v2, er2, .addBurn a.name u⟩ ⟨q3 j, by rw [r2]; exact q3 (j + 1), r1, by show er2.length ≤ 99; omega⟩ (xs_cons (PX.eq (x_t3 (xs_cons x_str (xs_cons (f_Craft_name T (x_var 6 rfl)) (xs_cons (x_var 7 rfl) xs_nil)))) rfl) xs_nil)) ?_
      show SXs _ _ (as [some (is K (Rdl.mk s)), some (is K (contsOf s)), some (is K (oneOf s)), some (is K (otherOf s)), none, some (is K v), some (is K a), some (is K u), none, none, none, none, none, none, none, none] (some (ownI y (He.ga K "Catalogue") 4 (fCat K (applyE (f j) (.addBurn a.name u)) (v2 + 1) (er2 ++ [f j]))))) _ _ _ _
      rw [r2]
      exact sx_endU ⟨f (j + 1), v2 + 1, er2 ++ [f j]⟩ ⟨rfl, by show v2 + 1 = v + 1 + ((j + 1 : Nat) : Int); omega, Nat.le_trans (add_len g3) (by omega)⟩ (by walk_at "gle") rfl
    · obtain ⟨k2, v2, er2⟩ := x
      obtain ⟨g1, g2, g3⟩ := hx
      dsimp only at g1 g2 g3
      show SXs _ _ (as [some (is K (Rdl.mk s)), some (is K (contsOf s)), some (is K (oneOf s)), some (is K (otherOf s)), none, some (is K v), some (is K a), none, none, none, none, none, none, none, none, none] (some (ownI y (He.ga K "Catalogue") 4 (fCat K k2 v2 er2)))) _ _ _ _
      refine sx_cons (sx_set (P := is K v2) 5 nd (PX.eq (x_add (x_add (x_var 5 rfl) x_int) (x_lenT T.free_len (xs_cons (f_Craft_burns T (x_var 6 rfl)) xs_nil))) (congrArg (is K) g2.symm))) ?_
      exact sx_endU ⟨k2, v2, er2⟩ ⟨g1.trans q5, by show er2.length ≤ _; omega⟩ (by walk_at "gle") rfl
  · obtain ⟨k, v, er⟩ := x
    obtain ⟨h1, h2⟩ := hx
    dsimp only at h1 h2
    have hb0 : Bk s 0 k := by rw [h1]; exact book_full s
    clear h1
    have n0 := md0 (lrow s 32) (y := 7) (by decide)
    have n1 := md1 (lrow s 32) (y := 7) (by decide)
    show SXs _ _ (as [some (is K (Rdl.mk s)), some (is K (contsOf s)), some (is K (oneOf s)), some (is K (otherOf s)), none, some (is K v), none, none, none, none, none, none, none, none, none, none] (some (ownI y (He.ga K "Catalogue") 4 (fCat K k v er)))) _ _ _ _
    refine sx_cons (sx_set (P := is K ([oneOf s, otherOf s] : List (List PV))) 8 nd (PX.eq (x_lst (xs_cons (x_var 2 rfl) (xs_cons (x_var 3 rfl) xs_nil))) rfl)) ?_
    have xd : ∀ {X : Cx} {Γ : Gm} {o : Option Own} {e b : Expr} {pos : Pos}, PX X e Γ o (is X.K (contsOf s).crafts) → PX X b Γ o (is X.K (0 : Int)) → PlainIx b → PX X (.Subscript e b pos) Γ o (is X.K (firstOf s)) := fun {X} _ _ _ _ _ h hb hp => x_ixP (n := 0) (t := anyV) (Ps := [is X.K (firstOf s), is X.K (secondOf s)]) h hb rfl rfl hp
    refine sx_cons (sx_set (P := is K (lworld s).drift) 9 nd ?_) ?_
    · exact f_Craft_drift (d := firstOf s) T (xd (f_Contents_crafts T (x_var 1 rfl)) x_int (by intro _ _; rfl))
    show SXs _ _ (as [some (is K (Rdl.mk s)), some (is K (contsOf s)), some (is K (oneOf s)), some (is K (otherOf s)), none, some (is K v), none, none, some (is K ([oneOf s, otherOf s] : List (List PV))), some (is K (lworld s).drift), none, none, none, none, none, none] (some (ownI y (He.ga K "Catalogue") 4 (fCat K k v er)))) _ _ _ _
    refine sx_forU (ι := BS) (rngL 0 (1 + lrow s 32 % 7).toNat) (fun _ x => [(5, some (is K x.v)), (6, none)]) (fun _ x => some (ownI y (He.ga K "Catalogue") 4 (fCat K x.k x.v x.er))) (fun j x => Bk s j x.k ∧ x.er.length ≤ 8 + j) ⟨k, v, er⟩ ?_ ⟨hb0, h2⟩ (by walk_at "gle") rfl (fun j x kk hk hx => ?_) (fun x hx => ?_)
    · exact i_rng1 T.free_range (xs_cons (x_add x_int (x_mod (c__law_row (l_script := ⟨s⟩) T (hr.mono (by decide)) (xs_cons (x_var 0 rfl) (xs_cons x_int xs_nil)) (show (0:Int) ≤ 32 ∧ (32:Int) ≤ 1000 by decide)) x_int (by decide))) xs_nil) (by show -(2 ^ 62) ≤ 1 + lrow s 32 % 7 ∧ 1 + lrow s 32 % 7 < 2 ^ 62; omega)
    · skip
      obtain ⟨k, v, er⟩ := x
      obtain ⟨hb, h2⟩ := hx
      dsimp only at hb h2
      obtain ⟨hj, ek⟩ := rngL_get hk
      have hj7 : j < 7 := by omega
      refine ⟨_, [10], g_name 10 nd, own_ninI (by decide), ?_⟩
      refine sx_cons (sx_set (P := is K (lrow s (33 + kk))) 11 nd (c__law_row (l_script := ⟨s⟩) T (hr.mono (by decide)) (xs_cons (x_var 0 rfl) (xs_cons (x_add x_int (x_var 10 rfl)) xs_nil)) (by show 0 ≤ 33 + kk ∧ 33 + kk ≤ 1000; omega))) ?_
      generalize lrow s (33 + kk) = r
      show SXs _ _ (as [some (is K (Rdl.mk s)), some (is K (contsOf s)), some (is K (oneOf s)), some (is K (otherOf s)), none, some (is K v), none, none, some (is K ([oneOf s, otherOf s] : List (List PV))), some (is K (lworld s).drift), some (is K kk), some (is K r), none, none, none, none] (some (ownI y (He.ga K "Catalogue") 4 (fCat K k v er)))) _ _ _ _
      refine sx_cons (M := exA (fun x : BS => Bk s (j + 1) x.k ∧ x.er.length ≤ 8 + (j + 1)) fun x => as [some (is K (Rdl.mk s)), some (is K (contsOf s)), some (is K (oneOf s)), some (is K (otherOf s)), none, some (is K x.v), none, none, some (is K ([oneOf s, otherOf s] : List (List PV))), some (is K (lworld s).drift), some (is K kk), some (is K r), none, none, none, none] (some (ownI y (He.ga K "Catalogue") 4 (fCat K x.k x.v x.er)))) (sx_if (t_w (w_and (t_eq (x_mod (x_div (x_var 11 rfl) x_int (dv (by decide) (by decide))) x_int (by decide)) x_int) fun _ => w_and1 (t_eq (x_lenT (xs := k.crafts) T.free_len (xs_cons (f_Contents_crafts T (x_ofld (P := is K k) T.cls_Catalogue T.noat_Catalogue_contents rfl)) xs_nil)) x_int))) (fun h => ?_) (fun h => ?_)) (sx_ex fun x hx => ?_)
      · have hl : k.crafts.l.length = 3 := by
          have h3 := of_decide_eq_true (Bool.and_eq_true_iff.mp h).2
          omega
        obtain ⟨d1, d2⟩ := drop_ok hb hl
        refine sx_cons (sx_edit 4 T (hr.mono (by decide)) ⟨k, v, er, .dropCraft "c"⟩ ⟨hb.kv, d2.kv, d1, by show er.length ≤ 99; omega⟩ (xs_cons (PX.eq (x_t2 (xs_cons x_str (xs_cons x_str xs_nil))) rfl) xs_nil)) ?_
        refine sx_cons (sx_undo 4 T (hr.mono (by decide)) ⟨applyE k (.dropCraft "c"), v + 1, er, k⟩ ⟨d2.kv, hb.kv, by show er.length ≤ 99; omega⟩) ?_
        refine sx_cons (sx_set (P := is K (v + 1 + 1)) 5 nd (PX.eq (x_add (x_var 5 rfl) x_int) (congrArg (is K) (by omega)))) ?_
        exact sx_end (exA_in (⟨k, v + 1 + 1, er⟩ : BS) ⟨hb.mono (Nat.le_succ j), by show er.length ≤ _; omega⟩ (as_le (by walk_at "gle")))
      · have hd : (v__law_edit k [oneOf s, otherOf s] (lworld s).drift r) = ledit k (oneOf s) (otherOf s) (lworld s).drift r := rfl
        obtain ⟨e1, e2⟩ := edit_ok hb (by omega) r
        have hsa : ∀ c ∈ k.crafts.l, c.start ≤ 1000 := bk_starts hb
        refine sx_cons (sx_edit 4 T (hr.mono (by decide)) ⟨k, v, er, ledit k (oneOf s) (otherOf s) (lworld s).drift r⟩ ⟨hb.kv, e2.kv, e1, by show er.length ≤ 99; omega⟩ (xs_cons (PX.eq (c__law_edit (l_motions := [oneOf s, otherOf s]) T (hr.mono (by decide)) (xs_cons (x_ofld (P := is K k) T.cls_Catalogue T.noat_Catalogue_contents rfl) (xs_cons (x_var 8 rfl) (xs_cons (x_var 9 rfl) (xs_cons (x_var 11 rfl) xs_nil)))) ⟨hb.kv, ⟨hb.fa, hb.fb⟩, ⟨rfl, mot_two s⟩, hsa⟩) (congrArg (is K) hd)) xs_nil)) ?_
        refine sx_last (sx_post1 ?_ (sx_set (P := is K (v + 1)) 5 nd (x_add (x_var 5 rfl) x_int)))
        exact exA_in (⟨applyE k (ledit k (oneOf s) (otherOf s) (lworld s).drift r), v + 1, er ++ [k]⟩ : BS) ⟨e2, add_len h2⟩ (as_le (by walk_at "gle"))
      · skip
        obtain ⟨k, v, er⟩ := x
        obtain ⟨hb, h2⟩ := hx
        dsimp only at hb h2
        have i0 := md0 (r / 3) (y := 2) (by decide)
        have i1 := md1 (r / 3) (y := 2) (by decide)
        obtain ⟨hcr, hob, hm, hf⟩ := bk_here hb (r / 3 % 2) i0 i1
        have e1 := bk_course hb (r / 3 % 2) (by omega)
        have e2 := fun u => bk_paper hb (r / 3 % 2) (by omega) (u := u)
        have hkv := hb.kv
        refine sx_ifx (d := false) (PTX.eq (t_ne (x_ofld (P := is K v) T.cls_Catalogue T.noat_Catalogue_version rfl) (x_var 5 rfl)) (by simp)) (fun h => nomatch h) (fun _ => ?_)
        refine sx_cons (sx_set (P := is K (r / 3 % 2)) 12 nd (x_mod (x_div (x_var 11 rfl) x_int (dv (by decide) (by decide))) x_int (by decide))) ?_
        refine sx_cons (sx_set (P := is K (craftOf k (nmOf (r / 3 % 2)))) 6 nd (c_craft_of (name := nmOf (r / 3 % 2)) T (hr.mono (by decide)) (xs_cons (x_ofld (P := is K k) T.cls_Catalogue T.noat_Catalogue_contents rfl) (xs_cons (x_pick (l := (["a", "b"] : List Str)) "" (PX.eq (x_lst (xs_cons x_str (xs_cons x_str xs_nil))) rfl) (x_var 12 rfl) i0 i1) xs_nil)) hf)) ?_
        generalize r / 3 % 2 = i at i0 i1 hcr hob hm hf e1 e2 ⊢
        generalize hc : craftOf k (nmOf i) = c at hcr hob e1 e2 ⊢
        have hmp := hm.pos
        have hml := hm.len
        have u0 := md0 (r / 11) (y := ((pick [oneOf s, otherOf s] i []).length : Int)) (by omega)
        have u1 := md1 (r / 11) (y := ((pick [oneOf s, otherOf s] i []).length : Int)) (by omega)
        have i1' : i < (([oneOf s, otherOf s] : List (List PV)).length : Int) := i1
        refine sx_cons (sx_set (P := is K (c.start + r / 11 % ((pick [oneOf s, otherOf s] i []).length : Int))) 13 nd (x_add (f_Craft_start T (x_var 6 rfl)) (x_mod (x_div (x_var 11 rfl) x_int (dv (by decide) (by decide))) (x_lenL T.free_len (xs_cons (x_pick (l := [oneOf s, otherOf s]) [] (x_var 8 rfl) (x_var 12 rfl) i0 i1') xs_nil)) (by omega)))) ?_
        have hu0 : c.start ≤ c.start + r / 11 % ((pick [oneOf s, otherOf s] i []).length : Int) := by omega
        have hu1 : c.start + r / 11 % ((pick [oneOf s, otherOf s] i []).length : Int) - c.start < ((pick [oneOf s, otherOf s] i []).length : Int) := by omega
        have hno := (journey_has hob (fine := k.fine) hu0 hu1).novoid
        have e3 := e2 _ hu0 hu1
        generalize c.start + r / 11 % ((pick [oneOf s, otherOf s] i []).length : Int) = u at hu0 hu1 hno e3 ⊢
        generalize hmo : pick [oneOf s, otherOf s] i [] = m at hm hmp hml hu0 hu1 hno e1 e3 hcr hob
        have xm : ∀ {e b : Expr} {pos : Pos} {X : Cx} {Γ : Gm} {o : Option Own}, PX X e Γ o (is X.K ([oneOf s, otherOf s] : List (List PV))) → PX X b Γ o (is X.K i) → PlainIx b → PX X (.Subscript e b pos) Γ o (is X.K m) := fun ha hb hp => hmo ▸ x_pick (l := [oneOf s, otherOf s]) [] ha hb i0 i1' hp
        have c0 := hcr.cv.s0
        have c1 := hcr.s1
        have hco := cok_of hcr.cv
        have hbo := bok_of hkv
        have k0 := hb.st0
        have k1 := hb.st1
        have k2 := hb.f0
        have k3 := hb.f1
        show SXs _ _ (as [some (is K (Rdl.mk s)), some (is K (contsOf s)), some (is K (oneOf s)), some (is K (otherOf s)), none, some (is K v), some (is K c), none, some (is K ([oneOf s, otherOf s] : List (List PV))), some (is K (lworld s).drift), some (is K kk), some (is K r), some (is K i), some (is K u), none, none] (some (ownI y (He.ga K "Catalogue") 4 (fCat K k v er)))) _ _ _ _
        refine sx_ifx (d := false) (t_not (d := true) (t_val (PX.eq (c__law_course_holds T (hr.mono (by decide)) (xs_cons (x_ofld (P := is K k) T.cls_Catalogue T.noat_Catalogue_contents rfl) (xs_cons (x_var 6 rfl) (xs_cons (xm (x_var 8 rfl) (x_var 12 rfl) (by intro _ _; rfl)) (xs_cons (x_var 13 rfl) xs_nil)))) ⟨⟨hbo, ⟨k2, by omega⟩, hco, ⟨k0, k1⟩, by omega⟩, by omega, c0, by omega⟩) (congrArg (is K) (e1 u))))) (fun h => nomatch h) (fun _ => ?_)
        refine sx_ifx (d := false) (t_not (d := true) (t_val (PX.eq (c__law_paper_holds T hP (hr.mono (by decide)) (xs_cons (x_ofld (P := is K k) T.cls_Catalogue T.noat_Catalogue_contents rfl) (xs_cons (x_var 6 rfl) (xs_cons (xm (x_var 8 rfl) (x_var 12 rfl) (by intro _ _; rfl)) (xs_cons (x_var 13 rfl) xs_nil)))) ⟨⟨hbo, ⟨k2, by omega⟩, hco, ⟨c0, by omega⟩, by omega, by omega⟩, hno, hm, hu0, hu1⟩) (congrArg (is K) e3)))) (fun h => nomatch h) (fun _ => ?_)
        have e4 := bk_meeting hb (r / 13 % 900)
        have hA := hb.oa
        have hB := hb.ob
        refine sx_cons (sx_set (P := is K (craftOf k "a")) 14 nd (c_craft_of (name := "a") T (hr.mono (by decide)) (xs_cons (x_ofld (P := is K k) T.cls_Catalogue T.noat_Catalogue_contents rfl) (xs_cons x_str xs_nil)) hb.fa)) ?_
        refine sx_cons (sx_set (P := is K (craftOf k "b")) 15 nd (c_craft_of (name := "b") T (hr.mono (by decide)) (xs_cons (x_ofld (P := is K k) T.cls_Catalogue T.noat_Catalogue_contents rfl) (xs_cons x_str xs_nil)) hb.fb)) ?_
        generalize craftOf k "a" = ca at hA e4 ⊢
        generalize craftOf k "b" = cb at hB e4 ⊢
        have a0 := hA.cv.s0
        have a1 := hA.s1
        have b0 := hB.cv.s0
        have b1 := hB.s1
        have m1p := m1.pos
        have m1l := m1.len
        have m2p := m2.pos
        have m2l := m2.len
        have d0 := md0 (r / 13) (y := 900) (by decide)
        have d1 := md1 (r / 13) (y := 900) (by decide)
        refine sx_ifx (d := false) (t_not (d := true) (t_val (PX.eq (c__law_meeting_true T (hr.mono (by decide)) (xs_cons (x_ofld (P := is K k) T.cls_Catalogue T.noat_Catalogue_contents rfl) (xs_cons (x_var 14 rfl) (xs_cons (x_var 15 rfl) (xs_cons (x_var 2 rfl) (xs_cons (x_var 3 rfl) (xs_cons (x_mod (x_div (x_var 11 rfl) x_int (dv (by decide) (by decide))) x_int (by decide)) xs_nil)))))) ⟨⟨⟨hbo, ⟨k2, k3⟩, ⟨cok_of hA.cv, cok_of hB.cv⟩, ⟨a0, by omega⟩, ⟨b0, by omega⟩, by unfold mLow; omega, by unfold mEnd; omega⟩, sm_range 100 (by omega) (by omega)⟩, m1, m2⟩) (congrArg (is K) e4)))) (fun h => nomatch h) (fun _ => ?_)
        exact sx_endU ⟨k, v, er⟩ ⟨hb, h2⟩ (by walk_at "gle") rfl
    · exact sx_last (sx_retD x_bl rfl)
end Or
set_option maxHeartbeats 400000
namespace Or
open PySem PySem.Spec PyProof.Rows L2 L3
theorem obs_of {K : Fg} {w : World} (a1 : ckF fa1 fn1 K = (true, fn1.map He.DefD.val)) (a2 : ckF fa2 fn2 K = (true, fn2.map He.DefD.val)) (a3 : ckF fa3 fn3 K = (true, fn3.map He.DefD.val))
    (d : tabs.map (fun t => He.dicW K (t.1 K)) = tabs.map (fun t => some (He.keysIn w.params t.2))) (l : lostW K = lostV) (m : moreB K = true) : obsK K = valL w := by
  have b1 := ba2 (congrArg Prod.fst a1)
  have b2 := ba2 (congrArg Prod.fst a2)
  have b3 := ba2 (congrArg Prod.fst a3)
  have c1 := congrArg Prod.snd a1
  have c2 := congrArg Prod.snd a2
  have c3 := congrArg Prod.snd a3
  have ea : fa = fa1 ++ (fa2 ++ fa3) := by rw [List.take_append_drop, List.take_append_drop]
  have en : fn = fn1 ++ (fn2 ++ fn3) := by rw [List.take_append_drop, List.take_append_drop]
  have e1 : (fa.all fun f => f.ok K) = true := by
    rw [ea, List.all_append, List.all_append]
    exact Bool.and_eq_true_iff.mpr ⟨b1.1, Bool.and_eq_true_iff.mpr ⟨b2.1, b3.1⟩⟩
  have e2 : (fn.all fun d => d.ok K) = true := by
    rw [en, List.all_append, List.all_append]
    exact Bool.and_eq_true_iff.mpr ⟨b1.2, Bool.and_eq_true_iff.mpr ⟨b2.2, b3.2⟩⟩
  have e3 : (fn.map fun d => He.fnW K d.at_) = fn.map He.DefD.val := by
    have g : ∀ {β : Type} (f : He.DefD → β), fn.map f = fn1.map f ++ (fn2.map f ++ fn3.map f) := fun f => by rw [← List.map_append, ← List.map_append, ← en]
    rw [g, g]
    exact (congrArg (· ++ _) c1).trans (congrArg (_ ++ ·) ((congrArg (· ++ _) c2).trans (congrArg (_ ++ ·) c3)))
  show ((((fa.all fun f => f.ok K) && fn.all fun d => d.ok K, fn.map fun d => He.fnW K d.at_), tabs.map fun t => He.dicW K (t.1 K)), (moreB K, lostW K)) = (((true, fn.map He.DefD.val), tabs.map fun t => some (He.keysIn w.params t.2)), (true, lostV))
  rw [e1, e2, e3, d, l, m]
  rfl
theorem run_of {b : Bool} {w : World} (h1 : (W0 b w).map (fun x => PySem.W.namesBound R.prog x.2.abs.heap) = some true)
    (h2 : (W0 b w).map (fun x => HandSHeadRun.seenQ qv topNames (importedModules R.prog.main.body) (fun s => PySem.W.xlAt qv [] s && PySem.W.recOk R.toRowW.records s) x.2.abs) = some (PySem.W.openGood qv topNames))
    (h3 : (W0 b w).map (fun x => ckF fa1 fn1 (kF x.2)) = some (true, fn1.map He.DefD.val)) (h4 : (W0 b w).map seeF = some (seeV (w.withFollow "special-get-raises" b))) (h5 : (W0 b w).map (fun x => ckF fa3 fn3 (kF x.2)) = some (true, fn3.map He.DefD.val)) (h6 : (W0 b w).map (fun x => ckF fa2 fn2 (kF x.2)) = some (true, fn2.map He.DefD.val)) :
    HandSHeadRun.RunEqI R qv hookL obL 60000 topNames (w.withFollow "special-get-raises" b) := by
  obtain ⟨x, hx, e1⟩ := Option.map_eq_some_iff.mp h1
  rw [hx] at h2 h3 h4 h5 h6
  have h2 := Option.some.inj h2
  have h3 := Option.some.inj h3
  have h4 : seeF x = seeV (w.withFollow "special-get-raises" b) := Option.some.inj h4
  have h5 := Option.some.inj h5
  have g1 := Option.some.inj h6
  have g2 : PySem.W.staticsOk (importedModules R.prog.main.body) x.1.heap x.2.abs.heap = true := congrArg (fun z : Row2 => z.1) h4
  have g3 : PySem.W.gensDone x.2.abs = true := congrArg (fun z : Row2 => z.2.1) h4
  have g4 : PySem.W.laidKept x.1.heap x.2.abs.heap = true := congrArg (fun z : Row2 => z.2.2.1) h4
  have o : obL x.2 = valL (w.withFollow "special-get-raises" b) := obs_of (K := kF x.2) h3 g1 h5 (congrArg (fun z : Row2 => z.2.2.2.1) h4) (congrArg (fun z : Row2 => z.2.2.2.2.1) h4) (congrArg (fun z : Row2 => z.2.2.2.2.2) h4)
  have lk : HandSHeadRun.looksF R.prog x.1.heap x.2.abs = true := by
    unfold HandSHeadRun.looksF
    rw [g2, e1, g3, g4]
    rfl
  unfold HandSHeadRun.RunEqI
  show (W0 b w).map _ = _
  rw [hx]
  exact congrArg some (Prod.ext lk (Prod.ext h2 o))
theorem runI (w : World) : HandSHeadRun.RunEqI R qv hookL obL 60000 topNames w :=
  PySem.W.byRow2 "special-get-raises" (fun w => run_of (run1f w) (run2f w) (run3f w) (run4f w) (run5f w) (run6f w)) (fun w => run_of (run1t w) (run2t w) (run3t w) (run4t w) (run5t w) (run6t w)) w
theorem allR_ints {K : Fg} {B : Hp} : ∀ ns : List Int, AllR (ns.map (is K)) B (ns.map V.int)
  | [] => trivial
  | _ :: ns => ⟨rfl, allR_ints ns⟩
theorem law_said {K : Fg} {H : Hp} {a : Addr} {ns : List Int} (hS : SqL K H a (ns.map V.int)) :
    spF (fun a : Rdl Int => True) (fun a : Rdl Int => [is K a]) (fun a => is K (v_law a)) [.ref a] H (fun v _ => v = .bl true) fun _ _ _ => False :=
  ⟨⟨ns⟩, H, trivial, Same.refl _, ⟨⟨a, ns.map V.int, rfl, hS, allR_ints ns⟩, trivial⟩, fun v B' H' _ h => h⟩
end Or
open PySem PySem.W PySem.Calls PyProof.Rows
set_option maxHeartbeats 0 in
theorem PySem.Challenge.cw_orrery_k85_whole_catalogues_hold_their_m_holds : PySem.Challenge.rw_orrery_k85_whole_catalogues_hold_their_m.Holds := by
  w_on; o_law
  refine HandSHeadRun.head_imp (r := Or.R) (q := Or.qv) (H := Or.hookL) (ob := Or.obL) (M := 60000) (loose := Or.topNames) (d := HandSHeadRun.topDef Or.R.prog 161) (kwd := []) Or.obL_eq Or.runI
    (by kernel_rfl) (by kernel_rfl) (by kernel_rfl) (by rfl) (by first | assumption | decide +kernel) (by decide +kernel) ⟨rfl, rfl, rfl, rfl, rfl, by decide +kernel⟩ ?hw ?hc
  case hw => w_witness2
  case hc =>
    refine L2.walk_ofE (l := PySem.Challenge.rw_orrery_k85_whole_catalogues_hold_their_m) (n := 63) (k := 11) (x := "_law_script") (CX := L2.CX0) rfl (by decide) (by kernel_rfl) ⟨rfl, by decide, by decide⟩ ?F (fun _ _ _ _ z => z)
    intro w mg fa h Y G hmg0
    obtain ⟨K, KX, c1, c2, c3⟩ := Y
    have T : Or.Tx w K mg := ⟨⟨h, KX, G⟩, c1, c2, c3⟩
    have hmg : mg ("law" : PySem.Str) = some (.ref fa) := by
      have e : (HandSHeadRun.topDef Or.R.prog 161).name = ("law" : PySem.Str) := by kernel_rfl
      rw [← e]
      exact hmg0
    have e := T.glo_law.symm.trans hmg
    cases e
    obtain ⟨fd, F⟩ := T.fn_law
    have b := L2.FunD.bindsA (ps := ["_law_script"]) F fun _ _ _ _ _ _ us hl => match us, hl with | [_], _ => rfl
    exact ⟨K, fd, _, KX, fun s v => b s [v] rfl, fun H a ns hl _ hS => Or.law_said hS, fun base _ _ => Or.okF_law T ⟨by kernel_rfl, by kernel_rfl⟩ F⟩
