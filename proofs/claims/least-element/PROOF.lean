import PyProof.Rows.All
import Wide.All
import OpenK.AllK
import Wide.FinOn
import HandS.ForMost
import HandS.Exc
import HandS.WordsExc
import HandS.ExcOwn
import HandS.TryOnly
import HandS.TryElse
import HandS.Wide
import HandS.WideBits
import HandS.IsInst
import HandS.Conv
import HandS.Flow
import HandS.ClsMeth
import HandS.Defaults
import HandS.Steps
import HandS.DictTup
import HandS.Codes
import HandS.SetIn
import HandS.NoneIn
import HandS.Small
import HandS.Rev
import HandS.RevTup
import HandS.Head2
import HandS.HeadEnd
import HandS.HeadHook4
import PySem.Challenge.RW_rowbreadth_k60_whole_least_element
set_option Elab.async false
set_option maxRecDepth 100000
set_option maxHeartbeats 4000000
/-! the text by places, the facts of the head -/
namespace Rb
open PySem PySem.Spec PyProof.Rows L2
def top (i : Nat) : Stmt := PySem.Challenge.pw_rowbreadth_k60_whole_least_element.main.body.getD i (.Pass ⟨0, 0, 0, 0⟩)
abbrev s_kept : Stmt := top 7
abbrev s_divided : Stmt := top 8
abbrev s_done : Stmt := top 10
abbrev s_start_of : Stmt := top 14
abbrev s_need_of : Stmt := top 28
abbrev s_lay_leaf : Stmt := top 31
abbrev s_lay_beside : Stmt := top 32
abbrev s_lay_form : Stmt := top 35
abbrev s_count_of : Stmt := top 44
abbrev s_group_for : Stmt := top 46
abbrev s_lay_effect : Stmt := top 47
abbrev s_step_code : Stmt := top 48
abbrev s_steps_code : Stmt := top 50
abbrev s_made : Stmt := top 51
abbrev s_begin_strip : Stmt := top 59
abbrev s_lane_active : Stmt := top 60
abbrev s_active_lanes : Stmt := top 61
abbrev s_seat_number : Stmt := top 62
abbrev s_read_cell : Stmt := top 63
abbrev s_write_cell : Stmt := top 64
abbrev s_slot_address : Stmt := top 65
abbrev s_read_slot : Stmt := top 66
abbrev s_write_slot : Stmt := top 67
abbrev s_trim_strip : Stmt := top 74
abbrev s_stop_refusal : Stmt := top 75
abbrev s_save_lanes : Stmt := top 76
abbrev s_store_lanes : Stmt := top 77
abbrev s_spread_read : Stmt := top 85
abbrev s_gather_got : Stmt := top 87
abbrev s_op_got : Stmt := top 88
abbrev s_lane_got : Stmt := top 90
abbrev s_lay_seat : Stmt := top 91
abbrev s_begin_round : Stmt := top 94
abbrev s_next_strip : Stmt := top 95
abbrev s_play_effect : Stmt := top 97
abbrev s_play_step : Stmt := top 98
abbrev s_ran : Stmt := top 99
abbrev s_lays_seat : Stmt := top 101
abbrev s_lays_mask : Stmt := top 102
abbrev s_may_fault : Stmt := top 103
abbrev s_writes_row : Stmt := top 104
abbrev s_seat_places : Stmt := top 105
abbrev s_mask_places : Stmt := top 106
abbrev s_folded_step : Stmt := top 109
abbrev s_turned_step : Stmt := top 110
abbrev s_key_of : Stmt := top 111
abbrev s_note_seat : Stmt := top 112
abbrev s_note_slot : Stmt := top 114
abbrev s_note_step : Stmt := top 115
abbrev s_known_steps : Stmt := top 116
abbrev s_is_wanted : Stmt := top 119
abbrev s_want_parts : Stmt := top 120
abbrev s_live_steps : Stmt := top 121
abbrev s_shorter_once : Stmt := top 123
abbrev s_shortened : Stmt := top 124
abbrev s_law_whole : Stmt := top 126
abbrev s_law_cell_at : Stmt := top 127
abbrev s_law_kept_by : Stmt := top 128
abbrev s_law_some : Stmt := top 129
abbrev s_law_told : Stmt := top 130
abbrev s_law_wrap : Stmt := top 131
abbrev s_law_planted : Stmt := top 132
abbrev s_law_play : Stmt := top 133
abbrev s_law : Stmt := top 134
abbrev s_Number_init : Stmt := inClass (top 19) 0
abbrev s_Cell_init : Stmt := inClass (top 21) 0
abbrev s_At_init : Stmt := inClass (top 23) 0
abbrev s_Pair_init : Stmt := inClass (top 24) 0
abbrev s_Hand_init : Stmt := inClass (top 30) 0
abbrev s_Hand_note : Stmt := inClass (top 30) 1
abbrev s_Step_init : Stmt := inClass (top 37) 0
abbrev s_Step_many_of : Stmt := inClass (top 37) 1
abbrev s_Let_init : Stmt := inClass (top 38) 0
abbrev s_Program_init : Stmt := inClass (top 43) 0
abbrev s_Boxes_init : Stmt := inClass (top 53) 0
abbrev s_Boxes_lay : Stmt := inClass (top 53) 1
abbrev s_Boxes_number_at : Stmt := inClass (top 53) 2
abbrev s_Feed_init : Stmt := inClass (top 55) 0
abbrev s_Feed_taken : Stmt := inClass (top 55) 1
abbrev s_Strip_init : Stmt := inClass (top 57) 0
abbrev s_Bench_init : Stmt := inClass (top 58) 0
abbrev s_Course_init : Stmt := inClass (top 93) 0
abbrev s_Holdings_init : Stmt := inClass (top 108) 0
abbrev s_Holdings_thing_of : Stmt := inClass (top 108) 1
abbrev s_Holdings_seat_thing : Stmt := inClass (top 108) 2
abbrev s_Holdings_mask_thing : Stmt := inClass (top 108) 3
abbrev s_Holdings_slot_thing : Stmt := inClass (top 108) 4
abbrev s_Holdings_root_at : Stmt := inClass (top 108) 5
abbrev s_Holdings_best_seat : Stmt := inClass (top 108) 6
abbrev s_Holdings_best_mask : Stmt := inClass (top 108) 7
abbrev s_Wanted_init : Stmt := inClass (top 118) 0
def dd (at_ : Str × Option Str) (nm qual : Str) (s : Stmt) (dfl : List He.Dv := []) : He.DefD := ⟨at_, nm, qual, defArgs s, defBody s, defScope s, dfl, []⟩
def fn0 : List He.DefD := [dd ("kept", none) "kept" "kept" s_kept,
  dd ("divided", none) "divided" "divided" s_divided,
  dd ("done", none) "done" "done" s_done,
  dd ("start_of", none) "start_of" "start_of" s_start_of,
  dd ("need_of", none) "need_of" "need_of" s_need_of,
  dd ("lay_leaf", none) "lay_leaf" "lay_leaf" s_lay_leaf,
  dd ("lay_beside", none) "lay_beside" "lay_beside" s_lay_beside,
  dd ("lay_form", none) "lay_form" "lay_form" s_lay_form,
  dd ("count_of", none) "count_of" "count_of" s_count_of,
  dd ("group_for", none) "group_for" "group_for" s_group_for,
  dd ("lay_effect", none) "lay_effect" "lay_effect" s_lay_effect,
  dd ("step_code", none) "step_code" "step_code" s_step_code,
  dd ("steps_code", none) "steps_code" "steps_code" s_steps_code,
  dd ("made", none) "made" "made" s_made [He.Dv.int 0],
  dd ("begin_strip", none) "begin_strip" "begin_strip" s_begin_strip,
  dd ("lane_active", none) "lane_active" "lane_active" s_lane_active,
  dd ("active_lanes", none) "active_lanes" "active_lanes" s_active_lanes,
  dd ("seat_number", none) "seat_number" "seat_number" s_seat_number,
  dd ("read_cell", none) "read_cell" "read_cell" s_read_cell,
  dd ("write_cell", none) "write_cell" "write_cell" s_write_cell,
  dd ("slot_address", none) "slot_address" "slot_address" s_slot_address,
  dd ("read_slot", none) "read_slot" "read_slot" s_read_slot,
  dd ("write_slot", none) "write_slot" "write_slot" s_write_slot,
  dd ("trim_strip", none) "trim_strip" "trim_strip" s_trim_strip,
  dd ("stop_refusal", none) "stop_refusal" "stop_refusal" s_stop_refusal,
  dd ("save_lanes", none) "save_lanes" "save_lanes" s_save_lanes,
  dd ("store_lanes", none) "store_lanes" "store_lanes" s_store_lanes,
  dd ("spread_read", none) "spread_read" "spread_read" s_spread_read,
  dd ("gather_got", none) "gather_got" "gather_got" s_gather_got,
  dd ("op_got", none) "op_got" "op_got" s_op_got]
def fn1 : List He.DefD := [dd ("lane_got", none) "lane_got" "lane_got" s_lane_got,
  dd ("lay_seat", none) "lay_seat" "lay_seat" s_lay_seat,
  dd ("begin_round", none) "begin_round" "begin_round" s_begin_round,
  dd ("next_strip", none) "next_strip" "next_strip" s_next_strip,
  dd ("play_effect", none) "play_effect" "play_effect" s_play_effect,
  dd ("play_step", none) "play_step" "play_step" s_play_step,
  dd ("ran", none) "ran" "ran" s_ran,
  dd ("lays_seat", none) "lays_seat" "lays_seat" s_lays_seat,
  dd ("lays_mask", none) "lays_mask" "lays_mask" s_lays_mask,
  dd ("may_fault", none) "may_fault" "may_fault" s_may_fault,
  dd ("writes_row", none) "writes_row" "writes_row" s_writes_row,
  dd ("seat_places", none) "seat_places" "seat_places" s_seat_places,
  dd ("mask_places", none) "mask_places" "mask_places" s_mask_places,
  dd ("folded_step", none) "folded_step" "folded_step" s_folded_step,
  dd ("turned_step", none) "turned_step" "turned_step" s_turned_step,
  dd ("key_of", none) "key_of" "key_of" s_key_of,
  dd ("note_seat", none) "note_seat" "note_seat" s_note_seat,
  dd ("note_slot", none) "note_slot" "note_slot" s_note_slot,
  dd ("note_step", none) "note_step" "note_step" s_note_step,
  dd ("known_steps", none) "known_steps" "known_steps" s_known_steps,
  dd ("is_wanted", none) "is_wanted" "is_wanted" s_is_wanted,
  dd ("want_parts", none) "want_parts" "want_parts" s_want_parts,
  dd ("live_steps", none) "live_steps" "live_steps" s_live_steps,
  dd ("shorter_once", none) "shorter_once" "shorter_once" s_shorter_once,
  dd ("shortened", none) "shortened" "shortened" s_shortened,
  dd ("_law_whole", none) "_law_whole" "_law_whole" s_law_whole,
  dd ("_law_cell_at", none) "_law_cell_at" "_law_cell_at" s_law_cell_at,
  dd ("_law_kept_by", none) "_law_kept_by" "_law_kept_by" s_law_kept_by,
  dd ("_law_some", none) "_law_some" "_law_some" s_law_some,
  dd ("_law_told", none) "_law_told" "_law_told" s_law_told]
def fn2 : List He.DefD := [dd ("_law_wrap", none) "_law_wrap" "_law_wrap" s_law_wrap,
  dd ("_law_planted", none) "_law_planted" "_law_planted" s_law_planted,
  dd ("_law_play", none) "_law_play" "_law_play" s_law_play,
  dd ("law", none) "law" "law" s_law,
  dd ("Number", some "__init__") "__init__" "Number.__init__" s_Number_init,
  dd ("Cell", some "__init__") "__init__" "Cell.__init__" s_Cell_init,
  dd ("At", some "__init__") "__init__" "At.__init__" s_At_init,
  dd ("Pair", some "__init__") "__init__" "Pair.__init__" s_Pair_init,
  dd ("Hand", some "__init__") "__init__" "Hand.__init__" s_Hand_init,
  dd ("Hand", some "note") "note" "Hand.note" s_Hand_note,
  dd ("Step", some "__init__") "__init__" "Step.__init__" s_Step_init,
  dd ("Let", some "many_of") "many_of" "Step.many_of" s_Step_many_of,
  dd ("Let", some "__init__") "__init__" "Let.__init__" s_Let_init [He.Dv.non],
  dd ("Program", some "__init__") "__init__" "Program.__init__" s_Program_init,
  dd ("Boxes", some "__init__") "__init__" "Boxes.__init__" s_Boxes_init,
  dd ("Boxes", some "lay") "lay" "Boxes.lay" s_Boxes_lay,
  dd ("Boxes", some "number_at") "number_at" "Boxes.number_at" s_Boxes_number_at,
  dd ("Feed", some "__init__") "__init__" "Feed.__init__" s_Feed_init,
  dd ("Feed", some "taken") "taken" "Feed.taken" s_Feed_taken,
  dd ("Strip", some "__init__") "__init__" "Strip.__init__" s_Strip_init,
  dd ("Bench", some "__init__") "__init__" "Bench.__init__" s_Bench_init,
  dd ("Course", some "__init__") "__init__" "Course.__init__" s_Course_init,
  dd ("Holdings", some "__init__") "__init__" "Holdings.__init__" s_Holdings_init,
  dd ("Holdings", some "thing_of") "thing_of" "Holdings.thing_of" s_Holdings_thing_of,
  dd ("Holdings", some "seat_thing") "seat_thing" "Holdings.seat_thing" s_Holdings_seat_thing,
  dd ("Holdings", some "mask_thing") "mask_thing" "Holdings.mask_thing" s_Holdings_mask_thing,
  dd ("Holdings", some "slot_thing") "slot_thing" "Holdings.slot_thing" s_Holdings_slot_thing,
  dd ("Holdings", some "root_at") "root_at" "Holdings.root_at" s_Holdings_root_at,
  dd ("Holdings", some "best_seat") "best_seat" "Holdings.best_seat" s_Holdings_best_seat,
  dd ("Holdings", some "best_mask") "best_mask" "Holdings.best_mask" s_Holdings_best_mask]
def fn3 : List He.DefD := [dd ("Wanted", some "__init__") "__init__" "Wanted.__init__" s_Wanted_init]
def fn : List He.DefD := fn0 ++ fn1 ++ fn2 ++ fn3
def fa0 : List He.Fa := [.glo "kept", .glo "divided", .glo "done", .glo "start_of", .glo "need_of", .glo "lay_leaf", .glo "lay_beside", .glo "lay_form", .glo "count_of", .glo "group_for", .glo "lay_effect", .glo "step_code", .glo "steps_code", .glo "made", .glo "begin_strip", .glo "lane_active", .glo "active_lanes", .glo "seat_number", .glo "read_cell", .glo "write_cell", .glo "slot_address", .glo "read_slot", .glo "write_slot", .glo "trim_strip", .glo "stop_refusal", .glo "save_lanes", .glo "store_lanes", .glo "spread_read", .glo "gather_got", .glo "op_got", .glo "lane_got", .glo "lay_seat", .glo "begin_round", .glo "next_strip", .glo "play_effect", .glo "play_step", .glo "ran", .glo "lays_seat", .glo "lays_mask", .glo "may_fault"]
def fa1 : List He.Fa := [.glo "writes_row", .glo "seat_places", .glo "mask_places", .glo "folded_step", .glo "turned_step", .glo "key_of", .glo "note_seat", .glo "note_slot", .glo "note_step", .glo "known_steps", .glo "is_wanted", .glo "want_parts", .glo "live_steps", .glo "shorter_once", .glo "shortened", .glo "_law_whole", .glo "_law_cell_at", .glo "_law_kept_by", .glo "_law_some", .glo "_law_told", .glo "_law_wrap", .glo "_law_planted", .glo "_law_play", .glo "law", .glo "lay_choice", .glo "lay_call", .glo "till_code", .glo "lay_mask", .glo "reach_lanes", .glo "put_lanes", .glo "fold_lanes", .glo "running_lanes", .glo "any_lanes", .glo "end_turn", .glo "shift_got", .glo "pick_got", .glo "note_mask", .glo "Number", .glo "Cell", .glo "At"]
def fa2 : List He.Fa := [.glo "Pair", .glo "Hand", .glo "Let", .glo "Program", .glo "Boxes", .glo "Feed", .glo "Strip", .glo "Bench", .glo "Course", .glo "Holdings", .glo "Wanted", .glo "Step", .glo "Choice", .glo "Call", .glo "Here", .glo "Shifted", .glo "Put", .glo "Fold", .glo "Running", .glo "Till", .glo "ByNought", .free "len", .free "range", .free "min", .free "max", .free "sum", .free "isinstance", .free "list", .free "tuple", .free "reversed", .free "divmod", .free "int", .free "bool", .free "str", .free "any", .free "zip", .free "enumerate", .int "HALF" 9223372036854775808, .cls "Number", .mkr "Number"]
def fa3 : List He.Fa := [.noat "Number" "number", .cls "Cell", .mkr "Cell", .noat "Cell" "row", .cls "At", .mkr "At", .noat "At" "row", .noat "At" "place", .cls "Pair", .mkr "Pair", .noat "Pair" "sign", .noat "Pair" "left", .noat "Pair" "right", .cls "Hand", .mkr "Hand", .noat "Hand" "lengths", .noat "Hand" "functions", .noat "Hand" "seats", .noat "Hand" "code", .meth "Hand" "note", .cls "Let", .mkr "Let", .noat "Let" "target", .noat "Let" "value", .noat "Let" "test", .cls "Program", .mkr "Program", .noat "Program" "lengths", .noat "Program" "functions", .noat "Program" "steps", .cls "Boxes", .mkr "Boxes", .noat "Boxes" "lanes", .noat "Boxes" "boxes", .meth "Boxes" "lay", .meth "Boxes" "number_at", .cls "Feed", .mkr "Feed", .noat "Feed" "stock", .noat "Feed" "spent"]
def fa4 : List He.Fa := [.meth "Feed" "taken", .cls "Strip", .mkr "Strip", .noat "Strip" "many", .noat "Strip" "group", .noat "Strip" "base", .noat "Strip" "began", .noat "Strip" "width", .noat "Strip" "faults", .noat "Strip" "cut", .cls "Bench", .mkr "Bench", .noat "Bench" "lengths", .noat "Bench" "cells", .noat "Bench" "lanes", .noat "Bench" "boxes", .noat "Bench" "masks", .noat "Bench" "slots", .noat "Bench" "dust", .noat "Bench" "picks", .noat "Bench" "place", .noat "Bench" "touches", .noat "Bench" "now", .noat "Bench" "carried", .noat "Bench" "raised", .cls "Course", .mkr "Course", .noat "Course" "ahead", .noat "Course" "opened", .noat "Course" "turns", .cls "Holdings", .mkr "Holdings", .noat "Holdings" "seats", .noat "Holdings" "masks", .noat "Holdings" "slots", .noat "Holdings" "things", .noat "Holdings" "roots", .noat "Holdings" "written", .noat "Holdings" "age", .meth "Holdings" "thing_of"]
def fa5 : List He.Fa := [.meth "Holdings" "seat_thing", .meth "Holdings" "mask_thing", .meth "Holdings" "slot_thing", .meth "Holdings" "root_at", .meth "Holdings" "best_seat", .meth "Holdings" "best_mask", .cls "Wanted", .mkr "Wanted", .noat "Wanted" "seats", .noat "Wanted" "masks", .noat "Wanted" "slots", .meth "Let" "many_of", .exc "ByNought", .exm "ByNought" "ByNought" true]
def fa : List He.Fa := fa0 ++ fa1 ++ fa2 ++ fa3 ++ fa4 ++ fa5
/-- isinstance: what is asked of an own class, and its answers -/
def insB (K : PySem.W.Frag) (x : Str) : Bool := decide (PySem.W.findIn K (.ref (He.ga K x)) "__class__" = some (some (.builtin "object.__class__"))) && (decide (PySem.W.specialIn K (.builtin "object.__class__") "__get__" = some (some (.builtin "getset_descriptor.__get__"))) &&
  (decide (PySem.W.takesIn K (.builtin "object.__class__") = some true) && decide (PySem.W.mroIn K (He.ga K x) (.type "object") = some true)))
def kitB2 (K : PySem.W.Frag) (x y : Str) (b : Bool) : Bool := decide (PySem.W.kitOne K (.ref (He.ga K x)) (.ref (He.ga K y)) = some b)
def clsB (K : PySem.W.Frag) (x m : Str) : Bool := PySem.W.readsIn K (He.ga K x) (.type "type") && (decide (PySem.W.specialIn K (.ref (He.ga K x)) "__getattribute__" = some (some (.builtin "type.__getattribute__"))) &&
  (match PySem.W.findCls K (.ref (He.ga K x)) (.type "type") m with
    | some (.val v) => decide (v = .ref (He.ma K (He.ga K x) m))
    | _ => false))
def kits : List (Str × Str × Bool) := [(Str.ofString "Number", Str.ofString "At", false), (Str.ofString "Number", Str.ofString "Pair", false), (Str.ofString "Number", Str.ofString "Choice", false), (Str.ofString "Number", Str.ofString "Call", false), (Str.ofString "Number", Str.ofString "Number", true), (Str.ofString "Number", Str.ofString "Here", false), (Str.ofString "Number", Str.ofString "Cell", false), (Str.ofString "Number", Str.ofString "Shifted", false), (Str.ofString "Cell", Str.ofString "At", false), (Str.ofString "Cell", Str.ofString "Pair", false), (Str.ofString "Cell", Str.ofString "Choice", false), (Str.ofString "Cell", Str.ofString "Call", false), (Str.ofString "Cell", Str.ofString "Number", false), (Str.ofString "Cell", Str.ofString "Here", false), (Str.ofString "Cell", Str.ofString "Cell", true), (Str.ofString "Cell", Str.ofString "Shifted", false), (Str.ofString "At", Str.ofString "At", true), (Str.ofString "At", Str.ofString "Pair", false), (Str.ofString "At", Str.ofString "Choice", false), (Str.ofString "At", Str.ofString "Call", false), (Str.ofString "At", Str.ofString "Number", false), (Str.ofString "At", Str.ofString "Here", false), (Str.ofString "At", Str.ofString "Cell", false), (Str.ofString "At", Str.ofString "Shifted", false), (Str.ofString "Pair", Str.ofString "At", false), (Str.ofString "Pair", Str.ofString "Pair", true), (Str.ofString "Pair", Str.ofString "Choice", false), (Str.ofString "Pair", Str.ofString "Call", false), (Str.ofString "Pair", Str.ofString "Number", false), (Str.ofString "Pair", Str.ofString "Here", false), (Str.ofString "Pair", Str.ofString "Cell", false), (Str.ofString "Pair", Str.ofString "Shifted", false), (Str.ofString "Let", Str.ofString "Till", false), (Str.ofString "Let", Str.ofString "Put", false), (Str.ofString "Let", Str.ofString "Fold", false), (Str.ofString "Let", Str.ofString "Running", false)]
def inss : List Str := ["Number", "Cell", "At", "Pair", "Let"]
def ex (K : PySem.W.Frag) : Bool := (inss.all fun x => insB K x) && ((kits.all fun q => kitB2 K q.1 q.2.1 q.2.2) && clsB K "Step" "__init__")
def names0 : List Str := [Str.ofString "RowError", Str.ofString "ByNought", Str.ofString "Outside", Str.ofString "HALF", Str.ofString "CAP", Str.ofString "kept", Str.ofString "divided", Str.ofString "by_bits", Str.ofString "done", Str.ofString "free", Str.ofString "joined", Str.ofString "start_of", Str.ofString "Spot", Str.ofString "row_cell", Str.ofString "Form", Str.ofString "Number", Str.ofString "Here", Str.ofString "Cell", Str.ofString "Shifted", Str.ofString "At", Str.ofString "Pair", Str.ofString "Choice", Str.ofString "Call", Str.ofString "need_of", Str.ofString "Hand", Str.ofString "lay_leaf", Str.ofString "lay_beside", Str.ofString "lay_choice", Str.ofString "lay_call", Str.ofString "lay_form", Str.ofString "Step", Str.ofString "Let", Str.ofString "Put", Str.ofString "Fold", Str.ofString "Running"]
def names1 : List Str := [Str.ofString "Till", Str.ofString "Program", Str.ofString "count_of", Str.ofString "group_for", Str.ofString "lay_effect", Str.ofString "step_code", Str.ofString "till_code", Str.ofString "steps_code", Str.ofString "made", Str.ofString "Boxes", Str.ofString "Feed", Str.ofString "Strip", Str.ofString "Bench", Str.ofString "begin_strip", Str.ofString "lane_active", Str.ofString "active_lanes", Str.ofString "seat_number", Str.ofString "read_cell", Str.ofString "write_cell", Str.ofString "slot_address", Str.ofString "read_slot", Str.ofString "write_slot", Str.ofString "cut_join", Str.ofString "doubled", Str.ofString "lay_mask", Str.ofString "reach_lanes", Str.ofString "trim_strip", Str.ofString "stop_refusal", Str.ofString "save_lanes", Str.ofString "store_lanes", Str.ofString "put_lanes", Str.ofString "fold_lanes", Str.ofString "runs_in_order", Str.ofString "runs_at_once", Str.ofString "running_lanes"]
def names2 : List Str := [Str.ofString "any_lanes", Str.ofString "spread_read", Str.ofString "shift_got", Str.ofString "gather_got", Str.ofString "op_got", Str.ofString "pick_got", Str.ofString "lane_got", Str.ofString "lay_seat", Str.ofString "Course", Str.ofString "begin_round", Str.ofString "next_strip", Str.ofString "end_turn", Str.ofString "play_effect", Str.ofString "play_step", Str.ofString "ran", Str.ofString "lays_seat", Str.ofString "lays_mask", Str.ofString "may_fault", Str.ofString "writes_row", Str.ofString "seat_places", Str.ofString "mask_places", Str.ofString "Holdings", Str.ofString "folded_step", Str.ofString "turned_step", Str.ofString "key_of", Str.ofString "note_seat", Str.ofString "note_mask", Str.ofString "note_slot", Str.ofString "note_step", Str.ofString "known_steps", Str.ofString "Wanted", Str.ofString "is_wanted", Str.ofString "want_parts", Str.ofString "live_steps", Str.ofString "shorter_once"]
def names3 : List Str := [Str.ofString "shortened", Str.ofString "_law_whole", Str.ofString "_law_cell_at", Str.ofString "_law_kept_by", Str.ofString "_law_some", Str.ofString "_law_told", Str.ofString "_law_wrap", Str.ofString "_law_planted", Str.ofString "_law_play"]
def names : List Str := names0 ++ names1 ++ names2 ++ names3
end Rb
set_option Elab.async false
set_option linter.all false
set_option maxRecDepth 100000
set_option maxHeartbeats 0
namespace Rb
open PySem PySem.Spec PyProof.Rows L2 PySem.W PySem.Calls
def as0 : List Addr := [24, 37, 49, 58, 65, 72, 79, 86, 93, 100, 117, 128, 145, 173, 192, 218, 244, 270, 296, 322, 348, 357, 381, 392, 399, 406, 411, 418, 442, 464, 491, 518, 538, 557, 576, 587, 594, 601, 608, 615]
def as1 : List Addr := [622, 630, 659, 687, 708, 727, 738, 745, 750, 757, 764, 771, 778, 785, 792, 799, 806, 813, 820, 827, 834, 841, 848, 855, 860, 867, 872, 877, 884, 891, 898, 905, 912, 919, 926, 933, 950, 961, 968, 975]
def as2 : List Addr := [982, 989, 996, 1003, 1010, 1017, 1024, 1031, 1038, 1100, 1111, 1118, 1125, 1132, 1139, 1146, 1153, 1160, 1177, 1188, 1195, 1202, 1209, 1216, 1223, 1230, 1237, 1244, 1251, 1258, 1265, 1272, 1279, 0, 23, 36, 48, 57, 64, 71]
def as3 : List Addr := [78, 85, 92, 99, 116, 127, 144, 172, 191, 217, 243, 269, 295, 321, 347, 356, 380, 391, 398, 405, 410, 417, 441, 463, 490, 517, 537, 556, 575, 586, 593, 600, 607, 614, 621, 629, 623, 658, 686, 707]
def as4 : List Addr := [726, 737, 744, 749, 756, 763, 770, 777, 784, 791, 798, 805, 812, 819, 826, 833, 840, 847, 854, 859, 866, 871, 876, 883, 890, 897, 904, 911, 918, 925, 932, 949, 960, 967, 974, 981, 988, 995, 1002, 1009]
def as5 : List Addr := [1016, 1023, 1030, 1037, 1099, 1110, 1117, 1124, 1131, 1138, 1145, 1152, 1159, 1176, 1187, 1194, 1201, 1208, 1215, 1222, 1229, 1236, 1243, 1250, 1257, 1264, 1271, 1278, 25, 56, 63, 70, 77, 84, 91, 98, 114, 118, 119, 126]
def as6 : List Addr := [142, 146, 147, 163, 170, 189, 208, 215, 234, 241, 260, 267, 286, 293, 312, 319, 338, 345, 355, 371, 378, 382, 383, 390, 397, 404, 409, 416, 432, 439, 443, 444, 461, 481, 488, 508, 515, 535, 554, 573]
def as7 : List Addr := [577, 578, 585, 592, 599, 606, 613, 620, 628, 642, 649, 656, 660, 661, 677, 684, 688, 689, 705, 709, 710, 724, 728, 729, 736, 743, 748, 755, 762, 769, 776, 783, 790, 797, 804, 811, 818, 825, 832, 839]
def as8 : List Addr := [846, 853, 858, 865, 870, 875, 882, 889, 896, 903, 910, 917, 924, 931, 947, 951, 952, 959, 966, 973, 980, 987, 994, 1001, 1008, 1015, 1022, 1029, 1036, 1052, 1059, 1066, 1073, 1080, 1087, 1092, 1097, 1101, 1102, 1109]
def as9 : List Addr := [1116, 1123, 1130, 1137, 1144, 1151, 1158, 1174, 1178, 1179, 1186, 1193, 1200, 1207, 1214, 1221, 1228, 1235, 1242, 1249, 1256, 1263, 1270, 1277, 113, 141, 162, 169, 188, 207, 214, 233, 240, 259, 266, 285, 292, 311, 318, 337]
def as10 : List Addr := [344, 370, 377, 431, 438, 460, 454, 480, 474, 487, 507, 501, 514, 534, 528, 553, 572, 641, 648, 655, 676, 683, 704, 723, 946, 1051, 1058, 1065, 1072, 1079, 1086, 1091, 1096, 1173]
def asAll : List Addr := mainGlobals :: cStatics :: (as0 ++ (as1 ++ (as2 ++ (as3 ++ (as4 ++ (as5 ++ (as6 ++ (as7 ++ (as8 ++ (as9 ++ (as10)))))))))))
/-! the head's Hook, over written addresses; the run is checked five times, each time for one look (so no check needs much memory) -/
abbrev AlY : Type := (Bool × Bool) × (Bool × List He.FnW)
abbrev KA (as : List Addr) (g : Addr → Option Obj) : PySem.W.Frag := He.frT g as
structure Says (K : PySem.W.Frag) : Prop where
  f : (fa.all fun f => f.ok K) = true
  e : ex K = true
  n : (fn.all fun d => d.ok K) = true
  w : (fn.map fun d => He.fnW K d.at_) = fn.map He.DefD.val
theorem Says.d {K : PySem.W.Frag} (c : Says K) : He.SaysD fa fn K := by
  show (((fa.all fun f => f.ok K) && fn.all fun d => d.ok K), fn.map fun d => He.fnW K d.at_) = (true, fn.map He.DefD.val)
  rw [c.f, c.n, c.w]
  rfl
def obsY (as : List Addr) (g : Addr → Option Obj) : AlY := (((fa.all fun f => f.ok (KA as g)), ex (KA as g)), ((fn.all fun d => d.ok (KA as g)), fn.map fun d => He.fnW (KA as g) d.at_))
def hookY (as : List Addr) : PySem.W.Hook where
  α := AlY
  obs := fun s => obsY as s.heap.get?
  val := fun _ => ((true, true), (true, fn.map He.DefD.val))
  says := fun _ h => ∃ K : PySem.W.Frag, K.In h ∧ Says K
  of := fun _ _ e => ⟨_, He.frT_in, congrArg (fun z : AlY => z.1.1) e, congrArg (fun z : AlY => z.1.2) e, congrArg (fun z : AlY => z.2.1) e, congrArg (fun z : AlY => z.2.2) e⟩
  keeps := fun _ _ _ ⟨K, hK, c⟩ k => ⟨K, PySem.W.Frag.In.keeps hK k, c⟩
abbrev R : PySem.W.OpenRow := PySem.W.OpenLaw.row PySem.Challenge.rw_rowbreadth_k60_whole_least_element
abbrev hk : PySem.W.Hook := hookY asAll
def ob (s : PySem.W.SharedT) : AlY := obsY asAll (HandSHeadRun.getT s)
theorem ob_eq (s : PySem.W.SharedT) : ob s = hk.obs s.abs := by
  have e : HandSHeadRun.getT s = s.abs.heap.get? := funext (HandSHeadRun.getT_eq s)
  show obsY asAll (HandSHeadRun.getT s) = obsY asAll s.abs.heap.get?
  rw [e]
abbrev qv : Program := PySem.W.view R.prog [134]
noncomputable abbrev endS (w : World) (os : OsState) : Option PySem.W.SharedT := HandSHeadRun.endF (HandSHeadRun.stepQ (HandSHeadRun.denQ HandSHeadRun.tabQ) R.prog w) 10200 R.prog w os
theorem run4 (w : World) (os : OsState) : (endS w os).map (fun s => fn.all fun d => d.ok (KA asAll (HandSHeadRun.getT s))) = some true := by
  kernel_rfl
theorem run3 (w : World) (os : OsState) : (endS w os).map (fun s => ((fa.all fun f => f.ok (KA asAll (HandSHeadRun.getT s))), ex (KA asAll (HandSHeadRun.getT s)))) = some (true, true) := by
  kernel_rfl
theorem run5 (w : World) (os : OsState) : (endS w os).map (fun s => fn.map fun d => He.fnW (KA asAll (HandSHeadRun.getT s)) d.at_) = some (fn.map He.DefD.val) := by
  kernel_rfl
theorem run1 (w : World) (os : OsState) : (endS w os).map (fun s => HandSHeadRun.looksF R.prog (boot_heap w.params) s.abs) = some true := by
  kernel_rfl
theorem run2 (w : World) (os : OsState) : (endS w os).map (fun s => HandSHeadRun.seenQ qv names (importedModules R.prog.main.body) (fun s => PySem.W.xlAt qv [] s && PySem.W.recOk R.toRowW.records s) s.abs) = some (PySem.W.openGood qv names) := by
  kernel_rfl
theorem both {S A B : Type} {o : Option S} {f : S → A} {g : S → B} {a : A} {b : B} (h1 : o.map f = some a) (h2 : o.map g = some b) : o.map (fun s => (f s, g s)) = some (a, b) := by
  cases o with
  | none => cases h1
  | some s =>
    have e1 : f s = a := Option.some.inj h1
    have e2 : g s = b := Option.some.inj h2
    show some (f s, g s) = some (a, b)
    rw [e1, e2]
theorem run (w : World) : HandSHeadRun.RunEq R qv hk ob 10200 names w := fun os =>
  both (run1 w os) (both (run2 w os) (both (run3 w os) (both (run4 w os) (run5 w os))))
end Rb
set_option Elab.async false
set_option linter.all false
set_option maxRecDepth 100000
set_option maxHeartbeats 4000000
/-! the facts by their names; the fields of each class -/
namespace Rb
open PySem PySem.Spec PyProof.Rows L2
structure SaysF (K : PySem.W.Frag) : Prop where
  f : (fa.all fun f => f.ok K) = true
  e : ex K = true
  n : (fn.all fun d => d.ok K) = true
  w : (fn.map fun d => He.fnW K d.at_) = fn.map He.DefD.val
/-- what the walk asks of the top -/
structure Tx (K : PySem.W.Frag) (mg : Str → Option Value) : Prop where
  hp : ∃ h : Heap, K.In h ∧ h.Ns mainGlobals mg
  c : SaysF K
section
variable {K : PySem.W.Frag} {mg : Str → Option Value}
theorem SaysF.d (c : SaysF K) : He.SaysD fa fn K := by
  show (((fa.all fun f => f.ok K) && fn.all fun d => d.ok K), fn.map fun d => He.fnW K d.at_) = (true, fn.map He.DefD.val)
  rw [c.f, c.n, c.w]
  rfl
theorem Tx.at_ (T : Tx K mg) {f : He.Fa} (h : f ∈ fa) : f.ok K = true := T.c.d.facts h
theorem Tx.df (T : Tx K mg) {d : He.DefD} (h : d ∈ fn) : ∃ fd, FunD K d.name d.qual d.params d.body d.scope (d.dvs K) (d.kws K) (He.fAd K d.at_) fd := T.c.d.defs h
theorem Tx.a0 (T : Tx K mg) (i : Nat) {f : He.Fa} (h : fa0[i]? = some f := by rfl) : f.ok K = true := T.at_ (List.mem_append_left _ (List.mem_append_left _ (List.mem_append_left _ (List.mem_append_left _ (List.mem_append_left _ (List.mem_of_getElem? h))))))
theorem Tx.a1 (T : Tx K mg) (i : Nat) {f : He.Fa} (h : fa1[i]? = some f := by rfl) : f.ok K = true := T.at_ (List.mem_append_left _ (List.mem_append_left _ (List.mem_append_left _ (List.mem_append_left _ (List.mem_append_right _ (List.mem_of_getElem? h))))))
theorem Tx.a2 (T : Tx K mg) (i : Nat) {f : He.Fa} (h : fa2[i]? = some f := by rfl) : f.ok K = true := T.at_ (List.mem_append_left _ (List.mem_append_left _ (List.mem_append_left _ (List.mem_append_right _ (List.mem_of_getElem? h)))))
theorem Tx.a3 (T : Tx K mg) (i : Nat) {f : He.Fa} (h : fa3[i]? = some f := by rfl) : f.ok K = true := T.at_ (List.mem_append_left _ (List.mem_append_left _ (List.mem_append_right _ (List.mem_of_getElem? h))))
theorem Tx.a4 (T : Tx K mg) (i : Nat) {f : He.Fa} (h : fa4[i]? = some f := by rfl) : f.ok K = true := T.at_ (List.mem_append_left _ (List.mem_append_right _ (List.mem_of_getElem? h)))
theorem Tx.a5 (T : Tx K mg) (i : Nat) {f : He.Fa} (h : fa5[i]? = some f := by rfl) : f.ok K = true := T.at_ (List.mem_append_right _ (List.mem_of_getElem? h))
theorem Tx.e0 (T : Tx K mg) (i : Nat) {d : He.DefD} (h : fn0[i]? = some d := by rfl) : ∃ fd, FunD K d.name d.qual d.params d.body d.scope (d.dvs K) (d.kws K) (He.fAd K d.at_) fd := T.df (List.mem_append_left _ (List.mem_append_left _ (List.mem_append_left _ (List.mem_of_getElem? h))))
theorem Tx.e1 (T : Tx K mg) (i : Nat) {d : He.DefD} (h : fn1[i]? = some d := by rfl) : ∃ fd, FunD K d.name d.qual d.params d.body d.scope (d.dvs K) (d.kws K) (He.fAd K d.at_) fd := T.df (List.mem_append_left _ (List.mem_append_left _ (List.mem_append_right _ (List.mem_of_getElem? h))))
theorem Tx.e2 (T : Tx K mg) (i : Nat) {d : He.DefD} (h : fn2[i]? = some d := by rfl) : ∃ fd, FunD K d.name d.qual d.params d.body d.scope (d.dvs K) (d.kws K) (He.fAd K d.at_) fd := T.df (List.mem_append_left _ (List.mem_append_right _ (List.mem_of_getElem? h)))
theorem Tx.e3 (T : Tx K mg) (i : Nat) {d : He.DefD} (h : fn3[i]? = some d := by rfl) : ∃ fd, FunD K d.name d.qual d.params d.body d.scope (d.dvs K) (d.kws K) (He.fAd K d.at_) fd := T.df (List.mem_append_right _ (List.mem_of_getElem? h))
theorem Tx.g_kept (T : Tx K mg) : mg "kept" = some (.ref (He.ga K "kept")) := by
  obtain ⟨h, X, G⟩ := T.hp
  exact He.glo_ok X G (x := "kept") (T.a0 0)
theorem Tx.g_divided (T : Tx K mg) : mg "divided" = some (.ref (He.ga K "divided")) := by
  obtain ⟨h, X, G⟩ := T.hp
  exact He.glo_ok X G (x := "divided") (T.a0 1)
theorem Tx.g_done (T : Tx K mg) : mg "done" = some (.ref (He.ga K "done")) := by
  obtain ⟨h, X, G⟩ := T.hp
  exact He.glo_ok X G (x := "done") (T.a0 2)
theorem Tx.g_start_of (T : Tx K mg) : mg "start_of" = some (.ref (He.ga K "start_of")) := by
  obtain ⟨h, X, G⟩ := T.hp
  exact He.glo_ok X G (x := "start_of") (T.a0 3)
theorem Tx.g_need_of (T : Tx K mg) : mg "need_of" = some (.ref (He.ga K "need_of")) := by
  obtain ⟨h, X, G⟩ := T.hp
  exact He.glo_ok X G (x := "need_of") (T.a0 4)
theorem Tx.g_lay_leaf (T : Tx K mg) : mg "lay_leaf" = some (.ref (He.ga K "lay_leaf")) := by
  obtain ⟨h, X, G⟩ := T.hp
  exact He.glo_ok X G (x := "lay_leaf") (T.a0 5)
theorem Tx.g_lay_beside (T : Tx K mg) : mg "lay_beside" = some (.ref (He.ga K "lay_beside")) := by
  obtain ⟨h, X, G⟩ := T.hp
  exact He.glo_ok X G (x := "lay_beside") (T.a0 6)
theorem Tx.g_lay_form (T : Tx K mg) : mg "lay_form" = some (.ref (He.ga K "lay_form")) := by
  obtain ⟨h, X, G⟩ := T.hp
  exact He.glo_ok X G (x := "lay_form") (T.a0 7)
theorem Tx.g_count_of (T : Tx K mg) : mg "count_of" = some (.ref (He.ga K "count_of")) := by
  obtain ⟨h, X, G⟩ := T.hp
  exact He.glo_ok X G (x := "count_of") (T.a0 8)
theorem Tx.g_group_for (T : Tx K mg) : mg "group_for" = some (.ref (He.ga K "group_for")) := by
  obtain ⟨h, X, G⟩ := T.hp
  exact He.glo_ok X G (x := "group_for") (T.a0 9)
theorem Tx.g_lay_effect (T : Tx K mg) : mg "lay_effect" = some (.ref (He.ga K "lay_effect")) := by
  obtain ⟨h, X, G⟩ := T.hp
  exact He.glo_ok X G (x := "lay_effect") (T.a0 10)
theorem Tx.g_step_code (T : Tx K mg) : mg "step_code" = some (.ref (He.ga K "step_code")) := by
  obtain ⟨h, X, G⟩ := T.hp
  exact He.glo_ok X G (x := "step_code") (T.a0 11)
theorem Tx.g_steps_code (T : Tx K mg) : mg "steps_code" = some (.ref (He.ga K "steps_code")) := by
  obtain ⟨h, X, G⟩ := T.hp
  exact He.glo_ok X G (x := "steps_code") (T.a0 12)
theorem Tx.g_made (T : Tx K mg) : mg "made" = some (.ref (He.ga K "made")) := by
  obtain ⟨h, X, G⟩ := T.hp
  exact He.glo_ok X G (x := "made") (T.a0 13)
theorem Tx.g_begin_strip (T : Tx K mg) : mg "begin_strip" = some (.ref (He.ga K "begin_strip")) := by
  obtain ⟨h, X, G⟩ := T.hp
  exact He.glo_ok X G (x := "begin_strip") (T.a0 14)
theorem Tx.g_lane_active (T : Tx K mg) : mg "lane_active" = some (.ref (He.ga K "lane_active")) := by
  obtain ⟨h, X, G⟩ := T.hp
  exact He.glo_ok X G (x := "lane_active") (T.a0 15)
theorem Tx.g_active_lanes (T : Tx K mg) : mg "active_lanes" = some (.ref (He.ga K "active_lanes")) := by
  obtain ⟨h, X, G⟩ := T.hp
  exact He.glo_ok X G (x := "active_lanes") (T.a0 16)
theorem Tx.g_seat_number (T : Tx K mg) : mg "seat_number" = some (.ref (He.ga K "seat_number")) := by
  obtain ⟨h, X, G⟩ := T.hp
  exact He.glo_ok X G (x := "seat_number") (T.a0 17)
theorem Tx.g_read_cell (T : Tx K mg) : mg "read_cell" = some (.ref (He.ga K "read_cell")) := by
  obtain ⟨h, X, G⟩ := T.hp
  exact He.glo_ok X G (x := "read_cell") (T.a0 18)
theorem Tx.g_write_cell (T : Tx K mg) : mg "write_cell" = some (.ref (He.ga K "write_cell")) := by
  obtain ⟨h, X, G⟩ := T.hp
  exact He.glo_ok X G (x := "write_cell") (T.a0 19)
theorem Tx.g_slot_address (T : Tx K mg) : mg "slot_address" = some (.ref (He.ga K "slot_address")) := by
  obtain ⟨h, X, G⟩ := T.hp
  exact He.glo_ok X G (x := "slot_address") (T.a0 20)
theorem Tx.g_read_slot (T : Tx K mg) : mg "read_slot" = some (.ref (He.ga K "read_slot")) := by
  obtain ⟨h, X, G⟩ := T.hp
  exact He.glo_ok X G (x := "read_slot") (T.a0 21)
theorem Tx.g_write_slot (T : Tx K mg) : mg "write_slot" = some (.ref (He.ga K "write_slot")) := by
  obtain ⟨h, X, G⟩ := T.hp
  exact He.glo_ok X G (x := "write_slot") (T.a0 22)
theorem Tx.g_trim_strip (T : Tx K mg) : mg "trim_strip" = some (.ref (He.ga K "trim_strip")) := by
  obtain ⟨h, X, G⟩ := T.hp
  exact He.glo_ok X G (x := "trim_strip") (T.a0 23)
theorem Tx.g_stop_refusal (T : Tx K mg) : mg "stop_refusal" = some (.ref (He.ga K "stop_refusal")) := by
  obtain ⟨h, X, G⟩ := T.hp
  exact He.glo_ok X G (x := "stop_refusal") (T.a0 24)
theorem Tx.g_save_lanes (T : Tx K mg) : mg "save_lanes" = some (.ref (He.ga K "save_lanes")) := by
  obtain ⟨h, X, G⟩ := T.hp
  exact He.glo_ok X G (x := "save_lanes") (T.a0 25)
theorem Tx.g_store_lanes (T : Tx K mg) : mg "store_lanes" = some (.ref (He.ga K "store_lanes")) := by
  obtain ⟨h, X, G⟩ := T.hp
  exact He.glo_ok X G (x := "store_lanes") (T.a0 26)
theorem Tx.g_spread_read (T : Tx K mg) : mg "spread_read" = some (.ref (He.ga K "spread_read")) := by
  obtain ⟨h, X, G⟩ := T.hp
  exact He.glo_ok X G (x := "spread_read") (T.a0 27)
theorem Tx.g_gather_got (T : Tx K mg) : mg "gather_got" = some (.ref (He.ga K "gather_got")) := by
  obtain ⟨h, X, G⟩ := T.hp
  exact He.glo_ok X G (x := "gather_got") (T.a0 28)
theorem Tx.g_op_got (T : Tx K mg) : mg "op_got" = some (.ref (He.ga K "op_got")) := by
  obtain ⟨h, X, G⟩ := T.hp
  exact He.glo_ok X G (x := "op_got") (T.a0 29)
theorem Tx.g_lane_got (T : Tx K mg) : mg "lane_got" = some (.ref (He.ga K "lane_got")) := by
  obtain ⟨h, X, G⟩ := T.hp
  exact He.glo_ok X G (x := "lane_got") (T.a0 30)
theorem Tx.g_lay_seat (T : Tx K mg) : mg "lay_seat" = some (.ref (He.ga K "lay_seat")) := by
  obtain ⟨h, X, G⟩ := T.hp
  exact He.glo_ok X G (x := "lay_seat") (T.a0 31)
theorem Tx.g_begin_round (T : Tx K mg) : mg "begin_round" = some (.ref (He.ga K "begin_round")) := by
  obtain ⟨h, X, G⟩ := T.hp
  exact He.glo_ok X G (x := "begin_round") (T.a0 32)
theorem Tx.g_next_strip (T : Tx K mg) : mg "next_strip" = some (.ref (He.ga K "next_strip")) := by
  obtain ⟨h, X, G⟩ := T.hp
  exact He.glo_ok X G (x := "next_strip") (T.a0 33)
theorem Tx.g_play_effect (T : Tx K mg) : mg "play_effect" = some (.ref (He.ga K "play_effect")) := by
  obtain ⟨h, X, G⟩ := T.hp
  exact He.glo_ok X G (x := "play_effect") (T.a0 34)
theorem Tx.g_play_step (T : Tx K mg) : mg "play_step" = some (.ref (He.ga K "play_step")) := by
  obtain ⟨h, X, G⟩ := T.hp
  exact He.glo_ok X G (x := "play_step") (T.a0 35)
theorem Tx.g_ran (T : Tx K mg) : mg "ran" = some (.ref (He.ga K "ran")) := by
  obtain ⟨h, X, G⟩ := T.hp
  exact He.glo_ok X G (x := "ran") (T.a0 36)
theorem Tx.g_lays_seat (T : Tx K mg) : mg "lays_seat" = some (.ref (He.ga K "lays_seat")) := by
  obtain ⟨h, X, G⟩ := T.hp
  exact He.glo_ok X G (x := "lays_seat") (T.a0 37)
theorem Tx.g_lays_mask (T : Tx K mg) : mg "lays_mask" = some (.ref (He.ga K "lays_mask")) := by
  obtain ⟨h, X, G⟩ := T.hp
  exact He.glo_ok X G (x := "lays_mask") (T.a0 38)
theorem Tx.g_may_fault (T : Tx K mg) : mg "may_fault" = some (.ref (He.ga K "may_fault")) := by
  obtain ⟨h, X, G⟩ := T.hp
  exact He.glo_ok X G (x := "may_fault") (T.a0 39)
theorem Tx.g_writes_row (T : Tx K mg) : mg "writes_row" = some (.ref (He.ga K "writes_row")) := by
  obtain ⟨h, X, G⟩ := T.hp
  exact He.glo_ok X G (x := "writes_row") (T.a1 0)
theorem Tx.g_seat_places (T : Tx K mg) : mg "seat_places" = some (.ref (He.ga K "seat_places")) := by
  obtain ⟨h, X, G⟩ := T.hp
  exact He.glo_ok X G (x := "seat_places") (T.a1 1)
theorem Tx.g_mask_places (T : Tx K mg) : mg "mask_places" = some (.ref (He.ga K "mask_places")) := by
  obtain ⟨h, X, G⟩ := T.hp
  exact He.glo_ok X G (x := "mask_places") (T.a1 2)
theorem Tx.g_folded_step (T : Tx K mg) : mg "folded_step" = some (.ref (He.ga K "folded_step")) := by
  obtain ⟨h, X, G⟩ := T.hp
  exact He.glo_ok X G (x := "folded_step") (T.a1 3)
theorem Tx.g_turned_step (T : Tx K mg) : mg "turned_step" = some (.ref (He.ga K "turned_step")) := by
  obtain ⟨h, X, G⟩ := T.hp
  exact He.glo_ok X G (x := "turned_step") (T.a1 4)
theorem Tx.g_key_of (T : Tx K mg) : mg "key_of" = some (.ref (He.ga K "key_of")) := by
  obtain ⟨h, X, G⟩ := T.hp
  exact He.glo_ok X G (x := "key_of") (T.a1 5)
theorem Tx.g_note_seat (T : Tx K mg) : mg "note_seat" = some (.ref (He.ga K "note_seat")) := by
  obtain ⟨h, X, G⟩ := T.hp
  exact He.glo_ok X G (x := "note_seat") (T.a1 6)
theorem Tx.g_note_slot (T : Tx K mg) : mg "note_slot" = some (.ref (He.ga K "note_slot")) := by
  obtain ⟨h, X, G⟩ := T.hp
  exact He.glo_ok X G (x := "note_slot") (T.a1 7)
theorem Tx.g_note_step (T : Tx K mg) : mg "note_step" = some (.ref (He.ga K "note_step")) := by
  obtain ⟨h, X, G⟩ := T.hp
  exact He.glo_ok X G (x := "note_step") (T.a1 8)
theorem Tx.g_known_steps (T : Tx K mg) : mg "known_steps" = some (.ref (He.ga K "known_steps")) := by
  obtain ⟨h, X, G⟩ := T.hp
  exact He.glo_ok X G (x := "known_steps") (T.a1 9)
theorem Tx.g_is_wanted (T : Tx K mg) : mg "is_wanted" = some (.ref (He.ga K "is_wanted")) := by
  obtain ⟨h, X, G⟩ := T.hp
  exact He.glo_ok X G (x := "is_wanted") (T.a1 10)
theorem Tx.g_want_parts (T : Tx K mg) : mg "want_parts" = some (.ref (He.ga K "want_parts")) := by
  obtain ⟨h, X, G⟩ := T.hp
  exact He.glo_ok X G (x := "want_parts") (T.a1 11)
theorem Tx.g_live_steps (T : Tx K mg) : mg "live_steps" = some (.ref (He.ga K "live_steps")) := by
  obtain ⟨h, X, G⟩ := T.hp
  exact He.glo_ok X G (x := "live_steps") (T.a1 12)
theorem Tx.g_shorter_once (T : Tx K mg) : mg "shorter_once" = some (.ref (He.ga K "shorter_once")) := by
  obtain ⟨h, X, G⟩ := T.hp
  exact He.glo_ok X G (x := "shorter_once") (T.a1 13)
theorem Tx.g_shortened (T : Tx K mg) : mg "shortened" = some (.ref (He.ga K "shortened")) := by
  obtain ⟨h, X, G⟩ := T.hp
  exact He.glo_ok X G (x := "shortened") (T.a1 14)
theorem Tx.g_law_whole (T : Tx K mg) : mg "_law_whole" = some (.ref (He.ga K "_law_whole")) := by
  obtain ⟨h, X, G⟩ := T.hp
  exact He.glo_ok X G (x := "_law_whole") (T.a1 15)
theorem Tx.g_law_cell_at (T : Tx K mg) : mg "_law_cell_at" = some (.ref (He.ga K "_law_cell_at")) := by
  obtain ⟨h, X, G⟩ := T.hp
  exact He.glo_ok X G (x := "_law_cell_at") (T.a1 16)
theorem Tx.g_law_kept_by (T : Tx K mg) : mg "_law_kept_by" = some (.ref (He.ga K "_law_kept_by")) := by
  obtain ⟨h, X, G⟩ := T.hp
  exact He.glo_ok X G (x := "_law_kept_by") (T.a1 17)
theorem Tx.g_law_some (T : Tx K mg) : mg "_law_some" = some (.ref (He.ga K "_law_some")) := by
  obtain ⟨h, X, G⟩ := T.hp
  exact He.glo_ok X G (x := "_law_some") (T.a1 18)
theorem Tx.g_law_told (T : Tx K mg) : mg "_law_told" = some (.ref (He.ga K "_law_told")) := by
  obtain ⟨h, X, G⟩ := T.hp
  exact He.glo_ok X G (x := "_law_told") (T.a1 19)
theorem Tx.g_law_wrap (T : Tx K mg) : mg "_law_wrap" = some (.ref (He.ga K "_law_wrap")) := by
  obtain ⟨h, X, G⟩ := T.hp
  exact He.glo_ok X G (x := "_law_wrap") (T.a1 20)
theorem Tx.g_law_planted (T : Tx K mg) : mg "_law_planted" = some (.ref (He.ga K "_law_planted")) := by
  obtain ⟨h, X, G⟩ := T.hp
  exact He.glo_ok X G (x := "_law_planted") (T.a1 21)
theorem Tx.g_law_play (T : Tx K mg) : mg "_law_play" = some (.ref (He.ga K "_law_play")) := by
  obtain ⟨h, X, G⟩ := T.hp
  exact He.glo_ok X G (x := "_law_play") (T.a1 22)
theorem Tx.g_law (T : Tx K mg) : mg "law" = some (.ref (He.ga K "law")) := by
  obtain ⟨h, X, G⟩ := T.hp
  exact He.glo_ok X G (x := "law") (T.a1 23)
theorem Tx.g_lay_choice (T : Tx K mg) : mg "lay_choice" = some (.ref (He.ga K "lay_choice")) := by
  obtain ⟨h, X, G⟩ := T.hp
  exact He.glo_ok X G (x := "lay_choice") (T.a1 24)
theorem Tx.g_lay_call (T : Tx K mg) : mg "lay_call" = some (.ref (He.ga K "lay_call")) := by
  obtain ⟨h, X, G⟩ := T.hp
  exact He.glo_ok X G (x := "lay_call") (T.a1 25)
theorem Tx.g_till_code (T : Tx K mg) : mg "till_code" = some (.ref (He.ga K "till_code")) := by
  obtain ⟨h, X, G⟩ := T.hp
  exact He.glo_ok X G (x := "till_code") (T.a1 26)
theorem Tx.g_lay_mask (T : Tx K mg) : mg "lay_mask" = some (.ref (He.ga K "lay_mask")) := by
  obtain ⟨h, X, G⟩ := T.hp
  exact He.glo_ok X G (x := "lay_mask") (T.a1 27)
theorem Tx.g_reach_lanes (T : Tx K mg) : mg "reach_lanes" = some (.ref (He.ga K "reach_lanes")) := by
  obtain ⟨h, X, G⟩ := T.hp
  exact He.glo_ok X G (x := "reach_lanes") (T.a1 28)
theorem Tx.g_put_lanes (T : Tx K mg) : mg "put_lanes" = some (.ref (He.ga K "put_lanes")) := by
  obtain ⟨h, X, G⟩ := T.hp
  exact He.glo_ok X G (x := "put_lanes") (T.a1 29)
theorem Tx.g_fold_lanes (T : Tx K mg) : mg "fold_lanes" = some (.ref (He.ga K "fold_lanes")) := by
  obtain ⟨h, X, G⟩ := T.hp
  exact He.glo_ok X G (x := "fold_lanes") (T.a1 30)
theorem Tx.g_running_lanes (T : Tx K mg) : mg "running_lanes" = some (.ref (He.ga K "running_lanes")) := by
  obtain ⟨h, X, G⟩ := T.hp
  exact He.glo_ok X G (x := "running_lanes") (T.a1 31)
theorem Tx.g_any_lanes (T : Tx K mg) : mg "any_lanes" = some (.ref (He.ga K "any_lanes")) := by
  obtain ⟨h, X, G⟩ := T.hp
  exact He.glo_ok X G (x := "any_lanes") (T.a1 32)
theorem Tx.g_end_turn (T : Tx K mg) : mg "end_turn" = some (.ref (He.ga K "end_turn")) := by
  obtain ⟨h, X, G⟩ := T.hp
  exact He.glo_ok X G (x := "end_turn") (T.a1 33)
theorem Tx.g_shift_got (T : Tx K mg) : mg "shift_got" = some (.ref (He.ga K "shift_got")) := by
  obtain ⟨h, X, G⟩ := T.hp
  exact He.glo_ok X G (x := "shift_got") (T.a1 34)
theorem Tx.g_pick_got (T : Tx K mg) : mg "pick_got" = some (.ref (He.ga K "pick_got")) := by
  obtain ⟨h, X, G⟩ := T.hp
  exact He.glo_ok X G (x := "pick_got") (T.a1 35)
theorem Tx.g_note_mask (T : Tx K mg) : mg "note_mask" = some (.ref (He.ga K "note_mask")) := by
  obtain ⟨h, X, G⟩ := T.hp
  exact He.glo_ok X G (x := "note_mask") (T.a1 36)
theorem Tx.g_Number (T : Tx K mg) : mg "Number" = some (.ref (He.ga K "Number")) := by
  obtain ⟨h, X, G⟩ := T.hp
  exact He.glo_ok X G (x := "Number") (T.a1 37)
theorem Tx.g_Cell (T : Tx K mg) : mg "Cell" = some (.ref (He.ga K "Cell")) := by
  obtain ⟨h, X, G⟩ := T.hp
  exact He.glo_ok X G (x := "Cell") (T.a1 38)
theorem Tx.g_At (T : Tx K mg) : mg "At" = some (.ref (He.ga K "At")) := by
  obtain ⟨h, X, G⟩ := T.hp
  exact He.glo_ok X G (x := "At") (T.a1 39)
theorem Tx.g_Pair (T : Tx K mg) : mg "Pair" = some (.ref (He.ga K "Pair")) := by
  obtain ⟨h, X, G⟩ := T.hp
  exact He.glo_ok X G (x := "Pair") (T.a2 0)
theorem Tx.g_Hand (T : Tx K mg) : mg "Hand" = some (.ref (He.ga K "Hand")) := by
  obtain ⟨h, X, G⟩ := T.hp
  exact He.glo_ok X G (x := "Hand") (T.a2 1)
theorem Tx.g_Let (T : Tx K mg) : mg "Let" = some (.ref (He.ga K "Let")) := by
  obtain ⟨h, X, G⟩ := T.hp
  exact He.glo_ok X G (x := "Let") (T.a2 2)
theorem Tx.g_Program (T : Tx K mg) : mg "Program" = some (.ref (He.ga K "Program")) := by
  obtain ⟨h, X, G⟩ := T.hp
  exact He.glo_ok X G (x := "Program") (T.a2 3)
theorem Tx.g_Boxes (T : Tx K mg) : mg "Boxes" = some (.ref (He.ga K "Boxes")) := by
  obtain ⟨h, X, G⟩ := T.hp
  exact He.glo_ok X G (x := "Boxes") (T.a2 4)
theorem Tx.g_Feed (T : Tx K mg) : mg "Feed" = some (.ref (He.ga K "Feed")) := by
  obtain ⟨h, X, G⟩ := T.hp
  exact He.glo_ok X G (x := "Feed") (T.a2 5)
theorem Tx.g_Strip (T : Tx K mg) : mg "Strip" = some (.ref (He.ga K "Strip")) := by
  obtain ⟨h, X, G⟩ := T.hp
  exact He.glo_ok X G (x := "Strip") (T.a2 6)
theorem Tx.g_Bench (T : Tx K mg) : mg "Bench" = some (.ref (He.ga K "Bench")) := by
  obtain ⟨h, X, G⟩ := T.hp
  exact He.glo_ok X G (x := "Bench") (T.a2 7)
theorem Tx.g_Course (T : Tx K mg) : mg "Course" = some (.ref (He.ga K "Course")) := by
  obtain ⟨h, X, G⟩ := T.hp
  exact He.glo_ok X G (x := "Course") (T.a2 8)
theorem Tx.g_Holdings (T : Tx K mg) : mg "Holdings" = some (.ref (He.ga K "Holdings")) := by
  obtain ⟨h, X, G⟩ := T.hp
  exact He.glo_ok X G (x := "Holdings") (T.a2 9)
theorem Tx.g_Wanted (T : Tx K mg) : mg "Wanted" = some (.ref (He.ga K "Wanted")) := by
  obtain ⟨h, X, G⟩ := T.hp
  exact He.glo_ok X G (x := "Wanted") (T.a2 10)
theorem Tx.g_Step (T : Tx K mg) : mg "Step" = some (.ref (He.ga K "Step")) := by
  obtain ⟨h, X, G⟩ := T.hp
  exact He.glo_ok X G (x := "Step") (T.a2 11)
theorem Tx.g_Choice (T : Tx K mg) : mg "Choice" = some (.ref (He.ga K "Choice")) := by
  obtain ⟨h, X, G⟩ := T.hp
  exact He.glo_ok X G (x := "Choice") (T.a2 12)
theorem Tx.g_Call (T : Tx K mg) : mg "Call" = some (.ref (He.ga K "Call")) := by
  obtain ⟨h, X, G⟩ := T.hp
  exact He.glo_ok X G (x := "Call") (T.a2 13)
theorem Tx.g_Here (T : Tx K mg) : mg "Here" = some (.ref (He.ga K "Here")) := by
  obtain ⟨h, X, G⟩ := T.hp
  exact He.glo_ok X G (x := "Here") (T.a2 14)
theorem Tx.g_Shifted (T : Tx K mg) : mg "Shifted" = some (.ref (He.ga K "Shifted")) := by
  obtain ⟨h, X, G⟩ := T.hp
  exact He.glo_ok X G (x := "Shifted") (T.a2 15)
theorem Tx.g_Put (T : Tx K mg) : mg "Put" = some (.ref (He.ga K "Put")) := by
  obtain ⟨h, X, G⟩ := T.hp
  exact He.glo_ok X G (x := "Put") (T.a2 16)
theorem Tx.g_Fold (T : Tx K mg) : mg "Fold" = some (.ref (He.ga K "Fold")) := by
  obtain ⟨h, X, G⟩ := T.hp
  exact He.glo_ok X G (x := "Fold") (T.a2 17)
theorem Tx.g_Running (T : Tx K mg) : mg "Running" = some (.ref (He.ga K "Running")) := by
  obtain ⟨h, X, G⟩ := T.hp
  exact He.glo_ok X G (x := "Running") (T.a2 18)
theorem Tx.g_Till (T : Tx K mg) : mg "Till" = some (.ref (He.ga K "Till")) := by
  obtain ⟨h, X, G⟩ := T.hp
  exact He.glo_ok X G (x := "Till") (T.a2 19)
theorem Tx.g_ByNought (T : Tx K mg) : mg "ByNought" = some (.ref (He.ga K "ByNought")) := by
  obtain ⟨h, X, G⟩ := T.hp
  exact He.glo_ok X G (x := "ByNought") (T.a2 20)
theorem Tx.b_len (T : Tx K mg) : mg "len" = none := by
  obtain ⟨h, X, G⟩ := T.hp
  exact He.free_ok X G (x := "len") (T.a2 21)
theorem Tx.b_range (T : Tx K mg) : mg "range" = none := by
  obtain ⟨h, X, G⟩ := T.hp
  exact He.free_ok X G (x := "range") (T.a2 22)
theorem Tx.b_min (T : Tx K mg) : mg "min" = none := by
  obtain ⟨h, X, G⟩ := T.hp
  exact He.free_ok X G (x := "min") (T.a2 23)
theorem Tx.b_max (T : Tx K mg) : mg "max" = none := by
  obtain ⟨h, X, G⟩ := T.hp
  exact He.free_ok X G (x := "max") (T.a2 24)
theorem Tx.b_sum (T : Tx K mg) : mg "sum" = none := by
  obtain ⟨h, X, G⟩ := T.hp
  exact He.free_ok X G (x := "sum") (T.a2 25)
theorem Tx.b_isinstance (T : Tx K mg) : mg "isinstance" = none := by
  obtain ⟨h, X, G⟩ := T.hp
  exact He.free_ok X G (x := "isinstance") (T.a2 26)
theorem Tx.b_list (T : Tx K mg) : mg "list" = none := by
  obtain ⟨h, X, G⟩ := T.hp
  exact He.free_ok X G (x := "list") (T.a2 27)
theorem Tx.b_tuple (T : Tx K mg) : mg "tuple" = none := by
  obtain ⟨h, X, G⟩ := T.hp
  exact He.free_ok X G (x := "tuple") (T.a2 28)
theorem Tx.b_reversed (T : Tx K mg) : mg "reversed" = none := by
  obtain ⟨h, X, G⟩ := T.hp
  exact He.free_ok X G (x := "reversed") (T.a2 29)
theorem Tx.b_divmod (T : Tx K mg) : mg "divmod" = none := by
  obtain ⟨h, X, G⟩ := T.hp
  exact He.free_ok X G (x := "divmod") (T.a2 30)
theorem Tx.b_int (T : Tx K mg) : mg "int" = none := by
  obtain ⟨h, X, G⟩ := T.hp
  exact He.free_ok X G (x := "int") (T.a2 31)
theorem Tx.b_bool (T : Tx K mg) : mg "bool" = none := by
  obtain ⟨h, X, G⟩ := T.hp
  exact He.free_ok X G (x := "bool") (T.a2 32)
theorem Tx.b_str (T : Tx K mg) : mg "str" = none := by
  obtain ⟨h, X, G⟩ := T.hp
  exact He.free_ok X G (x := "str") (T.a2 33)
theorem Tx.b_any (T : Tx K mg) : mg "any" = none := by
  obtain ⟨h, X, G⟩ := T.hp
  exact He.free_ok X G (x := "any") (T.a2 34)
theorem Tx.b_zip (T : Tx K mg) : mg "zip" = none := by
  obtain ⟨h, X, G⟩ := T.hp
  exact He.free_ok X G (x := "zip") (T.a2 35)
theorem Tx.b_enumerate (T : Tx K mg) : mg "enumerate" = none := by
  obtain ⟨h, X, G⟩ := T.hp
  exact He.free_ok X G (x := "enumerate") (T.a2 36)
theorem Tx.i_HALF (T : Tx K mg) : ∃ t, mg "HALF" = some (.int 9223372036854775808 t) := by
  obtain ⟨h, X, G⟩ := T.hp
  exact He.int_ok X G (x := "HALF") (T.a2 37)
theorem Tx.c_Number (T : Tx K mg) : Cls K (He.ga K "Number") := He.cls_ok (x := "Number") (T.a2 38)
theorem Tx.k_Number (T : Tx K mg) : Mk K (He.ga K "Number") (He.fAd K ("Number", some "__init__")) := He.mkr_ok (x := "Number") (T.a2 39)
theorem Tx.n_Number_number (T : Tx K mg) : NoAttr K (He.ga K "Number") "number" := He.noat_ok (x := "Number") (f := "number") (T.a3 0)
theorem Tx.c_Cell (T : Tx K mg) : Cls K (He.ga K "Cell") := He.cls_ok (x := "Cell") (T.a3 1)
theorem Tx.k_Cell (T : Tx K mg) : Mk K (He.ga K "Cell") (He.fAd K ("Cell", some "__init__")) := He.mkr_ok (x := "Cell") (T.a3 2)
theorem Tx.n_Cell_row (T : Tx K mg) : NoAttr K (He.ga K "Cell") "row" := He.noat_ok (x := "Cell") (f := "row") (T.a3 3)
theorem Tx.c_At (T : Tx K mg) : Cls K (He.ga K "At") := He.cls_ok (x := "At") (T.a3 4)
theorem Tx.k_At (T : Tx K mg) : Mk K (He.ga K "At") (He.fAd K ("At", some "__init__")) := He.mkr_ok (x := "At") (T.a3 5)
theorem Tx.n_At_row (T : Tx K mg) : NoAttr K (He.ga K "At") "row" := He.noat_ok (x := "At") (f := "row") (T.a3 6)
theorem Tx.n_At_place (T : Tx K mg) : NoAttr K (He.ga K "At") "place" := He.noat_ok (x := "At") (f := "place") (T.a3 7)
theorem Tx.c_Pair (T : Tx K mg) : Cls K (He.ga K "Pair") := He.cls_ok (x := "Pair") (T.a3 8)
theorem Tx.k_Pair (T : Tx K mg) : Mk K (He.ga K "Pair") (He.fAd K ("Pair", some "__init__")) := He.mkr_ok (x := "Pair") (T.a3 9)
theorem Tx.n_Pair_sign (T : Tx K mg) : NoAttr K (He.ga K "Pair") "sign" := He.noat_ok (x := "Pair") (f := "sign") (T.a3 10)
theorem Tx.n_Pair_left (T : Tx K mg) : NoAttr K (He.ga K "Pair") "left" := He.noat_ok (x := "Pair") (f := "left") (T.a3 11)
theorem Tx.n_Pair_right (T : Tx K mg) : NoAttr K (He.ga K "Pair") "right" := He.noat_ok (x := "Pair") (f := "right") (T.a3 12)
theorem Tx.c_Hand (T : Tx K mg) : Cls K (He.ga K "Hand") := He.cls_ok (x := "Hand") (T.a3 13)
theorem Tx.k_Hand (T : Tx K mg) : Mk K (He.ga K "Hand") (He.fAd K ("Hand", some "__init__")) := He.mkr_ok (x := "Hand") (T.a3 14)
theorem Tx.n_Hand_lengths (T : Tx K mg) : NoAttr K (He.ga K "Hand") "lengths" := He.noat_ok (x := "Hand") (f := "lengths") (T.a3 15)
theorem Tx.n_Hand_functions (T : Tx K mg) : NoAttr K (He.ga K "Hand") "functions" := He.noat_ok (x := "Hand") (f := "functions") (T.a3 16)
theorem Tx.n_Hand_seats (T : Tx K mg) : NoAttr K (He.ga K "Hand") "seats" := He.noat_ok (x := "Hand") (f := "seats") (T.a3 17)
theorem Tx.n_Hand_code (T : Tx K mg) : NoAttr K (He.ga K "Hand") "code" := He.noat_ok (x := "Hand") (f := "code") (T.a3 18)
theorem Tx.m_Hand_note (T : Tx K mg) : Meth K (He.ga K "Hand") "note" (He.fAd K ("Hand", some "note")) := He.meth_ok (x := "Hand") (m := "note") (T.a3 19)
theorem Tx.c_Let (T : Tx K mg) : Cls K (He.ga K "Let") := He.cls_ok (x := "Let") (T.a3 20)
theorem Tx.k_Let (T : Tx K mg) : Mk K (He.ga K "Let") (He.fAd K ("Let", some "__init__")) := He.mkr_ok (x := "Let") (T.a3 21)
theorem Tx.n_Let_target (T : Tx K mg) : NoAttr K (He.ga K "Let") "target" := He.noat_ok (x := "Let") (f := "target") (T.a3 22)
theorem Tx.n_Let_value (T : Tx K mg) : NoAttr K (He.ga K "Let") "value" := He.noat_ok (x := "Let") (f := "value") (T.a3 23)
theorem Tx.n_Let_test (T : Tx K mg) : NoAttr K (He.ga K "Let") "test" := He.noat_ok (x := "Let") (f := "test") (T.a3 24)
theorem Tx.c_Program (T : Tx K mg) : Cls K (He.ga K "Program") := He.cls_ok (x := "Program") (T.a3 25)
theorem Tx.k_Program (T : Tx K mg) : Mk K (He.ga K "Program") (He.fAd K ("Program", some "__init__")) := He.mkr_ok (x := "Program") (T.a3 26)
theorem Tx.n_Program_lengths (T : Tx K mg) : NoAttr K (He.ga K "Program") "lengths" := He.noat_ok (x := "Program") (f := "lengths") (T.a3 27)
theorem Tx.n_Program_functions (T : Tx K mg) : NoAttr K (He.ga K "Program") "functions" := He.noat_ok (x := "Program") (f := "functions") (T.a3 28)
theorem Tx.n_Program_steps (T : Tx K mg) : NoAttr K (He.ga K "Program") "steps" := He.noat_ok (x := "Program") (f := "steps") (T.a3 29)
theorem Tx.c_Boxes (T : Tx K mg) : Cls K (He.ga K "Boxes") := He.cls_ok (x := "Boxes") (T.a3 30)
theorem Tx.k_Boxes (T : Tx K mg) : Mk K (He.ga K "Boxes") (He.fAd K ("Boxes", some "__init__")) := He.mkr_ok (x := "Boxes") (T.a3 31)
theorem Tx.n_Boxes_lanes (T : Tx K mg) : NoAttr K (He.ga K "Boxes") "lanes" := He.noat_ok (x := "Boxes") (f := "lanes") (T.a3 32)
theorem Tx.n_Boxes_boxes (T : Tx K mg) : NoAttr K (He.ga K "Boxes") "boxes" := He.noat_ok (x := "Boxes") (f := "boxes") (T.a3 33)
theorem Tx.m_Boxes_lay (T : Tx K mg) : Meth K (He.ga K "Boxes") "lay" (He.fAd K ("Boxes", some "lay")) := He.meth_ok (x := "Boxes") (m := "lay") (T.a3 34)
theorem Tx.m_Boxes_number_at (T : Tx K mg) : Meth K (He.ga K "Boxes") "number_at" (He.fAd K ("Boxes", some "number_at")) := He.meth_ok (x := "Boxes") (m := "number_at") (T.a3 35)
theorem Tx.c_Feed (T : Tx K mg) : Cls K (He.ga K "Feed") := He.cls_ok (x := "Feed") (T.a3 36)
theorem Tx.k_Feed (T : Tx K mg) : Mk K (He.ga K "Feed") (He.fAd K ("Feed", some "__init__")) := He.mkr_ok (x := "Feed") (T.a3 37)
theorem Tx.n_Feed_stock (T : Tx K mg) : NoAttr K (He.ga K "Feed") "stock" := He.noat_ok (x := "Feed") (f := "stock") (T.a3 38)
theorem Tx.n_Feed_spent (T : Tx K mg) : NoAttr K (He.ga K "Feed") "spent" := He.noat_ok (x := "Feed") (f := "spent") (T.a3 39)
theorem Tx.m_Feed_taken (T : Tx K mg) : Meth K (He.ga K "Feed") "taken" (He.fAd K ("Feed", some "taken")) := He.meth_ok (x := "Feed") (m := "taken") (T.a4 0)
theorem Tx.c_Strip (T : Tx K mg) : Cls K (He.ga K "Strip") := He.cls_ok (x := "Strip") (T.a4 1)
theorem Tx.k_Strip (T : Tx K mg) : Mk K (He.ga K "Strip") (He.fAd K ("Strip", some "__init__")) := He.mkr_ok (x := "Strip") (T.a4 2)
theorem Tx.n_Strip_many (T : Tx K mg) : NoAttr K (He.ga K "Strip") "many" := He.noat_ok (x := "Strip") (f := "many") (T.a4 3)
theorem Tx.n_Strip_group (T : Tx K mg) : NoAttr K (He.ga K "Strip") "group" := He.noat_ok (x := "Strip") (f := "group") (T.a4 4)
theorem Tx.n_Strip_base (T : Tx K mg) : NoAttr K (He.ga K "Strip") "base" := He.noat_ok (x := "Strip") (f := "base") (T.a4 5)
theorem Tx.n_Strip_began (T : Tx K mg) : NoAttr K (He.ga K "Strip") "began" := He.noat_ok (x := "Strip") (f := "began") (T.a4 6)
theorem Tx.n_Strip_width (T : Tx K mg) : NoAttr K (He.ga K "Strip") "width" := He.noat_ok (x := "Strip") (f := "width") (T.a4 7)
theorem Tx.n_Strip_faults (T : Tx K mg) : NoAttr K (He.ga K "Strip") "faults" := He.noat_ok (x := "Strip") (f := "faults") (T.a4 8)
theorem Tx.n_Strip_cut (T : Tx K mg) : NoAttr K (He.ga K "Strip") "cut" := He.noat_ok (x := "Strip") (f := "cut") (T.a4 9)
theorem Tx.c_Bench (T : Tx K mg) : Cls K (He.ga K "Bench") := He.cls_ok (x := "Bench") (T.a4 10)
theorem Tx.k_Bench (T : Tx K mg) : Mk K (He.ga K "Bench") (He.fAd K ("Bench", some "__init__")) := He.mkr_ok (x := "Bench") (T.a4 11)
theorem Tx.n_Bench_lengths (T : Tx K mg) : NoAttr K (He.ga K "Bench") "lengths" := He.noat_ok (x := "Bench") (f := "lengths") (T.a4 12)
theorem Tx.n_Bench_cells (T : Tx K mg) : NoAttr K (He.ga K "Bench") "cells" := He.noat_ok (x := "Bench") (f := "cells") (T.a4 13)
theorem Tx.n_Bench_lanes (T : Tx K mg) : NoAttr K (He.ga K "Bench") "lanes" := He.noat_ok (x := "Bench") (f := "lanes") (T.a4 14)
theorem Tx.n_Bench_boxes (T : Tx K mg) : NoAttr K (He.ga K "Bench") "boxes" := He.noat_ok (x := "Bench") (f := "boxes") (T.a4 15)
theorem Tx.n_Bench_masks (T : Tx K mg) : NoAttr K (He.ga K "Bench") "masks" := He.noat_ok (x := "Bench") (f := "masks") (T.a4 16)
theorem Tx.n_Bench_slots (T : Tx K mg) : NoAttr K (He.ga K "Bench") "slots" := He.noat_ok (x := "Bench") (f := "slots") (T.a4 17)
theorem Tx.n_Bench_dust (T : Tx K mg) : NoAttr K (He.ga K "Bench") "dust" := He.noat_ok (x := "Bench") (f := "dust") (T.a4 18)
theorem Tx.n_Bench_picks (T : Tx K mg) : NoAttr K (He.ga K "Bench") "picks" := He.noat_ok (x := "Bench") (f := "picks") (T.a4 19)
theorem Tx.n_Bench_place (T : Tx K mg) : NoAttr K (He.ga K "Bench") "place" := He.noat_ok (x := "Bench") (f := "place") (T.a4 20)
theorem Tx.n_Bench_touches (T : Tx K mg) : NoAttr K (He.ga K "Bench") "touches" := He.noat_ok (x := "Bench") (f := "touches") (T.a4 21)
theorem Tx.n_Bench_now (T : Tx K mg) : NoAttr K (He.ga K "Bench") "now" := He.noat_ok (x := "Bench") (f := "now") (T.a4 22)
theorem Tx.n_Bench_carried (T : Tx K mg) : NoAttr K (He.ga K "Bench") "carried" := He.noat_ok (x := "Bench") (f := "carried") (T.a4 23)
theorem Tx.n_Bench_raised (T : Tx K mg) : NoAttr K (He.ga K "Bench") "raised" := He.noat_ok (x := "Bench") (f := "raised") (T.a4 24)
theorem Tx.c_Course (T : Tx K mg) : Cls K (He.ga K "Course") := He.cls_ok (x := "Course") (T.a4 25)
theorem Tx.k_Course (T : Tx K mg) : Mk K (He.ga K "Course") (He.fAd K ("Course", some "__init__")) := He.mkr_ok (x := "Course") (T.a4 26)
theorem Tx.n_Course_ahead (T : Tx K mg) : NoAttr K (He.ga K "Course") "ahead" := He.noat_ok (x := "Course") (f := "ahead") (T.a4 27)
theorem Tx.n_Course_opened (T : Tx K mg) : NoAttr K (He.ga K "Course") "opened" := He.noat_ok (x := "Course") (f := "opened") (T.a4 28)
theorem Tx.n_Course_turns (T : Tx K mg) : NoAttr K (He.ga K "Course") "turns" := He.noat_ok (x := "Course") (f := "turns") (T.a4 29)
theorem Tx.c_Holdings (T : Tx K mg) : Cls K (He.ga K "Holdings") := He.cls_ok (x := "Holdings") (T.a4 30)
theorem Tx.k_Holdings (T : Tx K mg) : Mk K (He.ga K "Holdings") (He.fAd K ("Holdings", some "__init__")) := He.mkr_ok (x := "Holdings") (T.a4 31)
theorem Tx.n_Holdings_seats (T : Tx K mg) : NoAttr K (He.ga K "Holdings") "seats" := He.noat_ok (x := "Holdings") (f := "seats") (T.a4 32)
theorem Tx.n_Holdings_masks (T : Tx K mg) : NoAttr K (He.ga K "Holdings") "masks" := He.noat_ok (x := "Holdings") (f := "masks") (T.a4 33)
theorem Tx.n_Holdings_slots (T : Tx K mg) : NoAttr K (He.ga K "Holdings") "slots" := He.noat_ok (x := "Holdings") (f := "slots") (T.a4 34)
theorem Tx.n_Holdings_things (T : Tx K mg) : NoAttr K (He.ga K "Holdings") "things" := He.noat_ok (x := "Holdings") (f := "things") (T.a4 35)
theorem Tx.n_Holdings_roots (T : Tx K mg) : NoAttr K (He.ga K "Holdings") "roots" := He.noat_ok (x := "Holdings") (f := "roots") (T.a4 36)
theorem Tx.n_Holdings_written (T : Tx K mg) : NoAttr K (He.ga K "Holdings") "written" := He.noat_ok (x := "Holdings") (f := "written") (T.a4 37)
theorem Tx.n_Holdings_age (T : Tx K mg) : NoAttr K (He.ga K "Holdings") "age" := He.noat_ok (x := "Holdings") (f := "age") (T.a4 38)
theorem Tx.m_Holdings_thing_of (T : Tx K mg) : Meth K (He.ga K "Holdings") "thing_of" (He.fAd K ("Holdings", some "thing_of")) := He.meth_ok (x := "Holdings") (m := "thing_of") (T.a4 39)
theorem Tx.m_Holdings_seat_thing (T : Tx K mg) : Meth K (He.ga K "Holdings") "seat_thing" (He.fAd K ("Holdings", some "seat_thing")) := He.meth_ok (x := "Holdings") (m := "seat_thing") (T.a5 0)
theorem Tx.m_Holdings_mask_thing (T : Tx K mg) : Meth K (He.ga K "Holdings") "mask_thing" (He.fAd K ("Holdings", some "mask_thing")) := He.meth_ok (x := "Holdings") (m := "mask_thing") (T.a5 1)
theorem Tx.m_Holdings_slot_thing (T : Tx K mg) : Meth K (He.ga K "Holdings") "slot_thing" (He.fAd K ("Holdings", some "slot_thing")) := He.meth_ok (x := "Holdings") (m := "slot_thing") (T.a5 2)
theorem Tx.m_Holdings_root_at (T : Tx K mg) : Meth K (He.ga K "Holdings") "root_at" (He.fAd K ("Holdings", some "root_at")) := He.meth_ok (x := "Holdings") (m := "root_at") (T.a5 3)
theorem Tx.m_Holdings_best_seat (T : Tx K mg) : Meth K (He.ga K "Holdings") "best_seat" (He.fAd K ("Holdings", some "best_seat")) := He.meth_ok (x := "Holdings") (m := "best_seat") (T.a5 4)
theorem Tx.m_Holdings_best_mask (T : Tx K mg) : Meth K (He.ga K "Holdings") "best_mask" (He.fAd K ("Holdings", some "best_mask")) := He.meth_ok (x := "Holdings") (m := "best_mask") (T.a5 5)
theorem Tx.c_Wanted (T : Tx K mg) : Cls K (He.ga K "Wanted") := He.cls_ok (x := "Wanted") (T.a5 6)
theorem Tx.k_Wanted (T : Tx K mg) : Mk K (He.ga K "Wanted") (He.fAd K ("Wanted", some "__init__")) := He.mkr_ok (x := "Wanted") (T.a5 7)
theorem Tx.n_Wanted_seats (T : Tx K mg) : NoAttr K (He.ga K "Wanted") "seats" := He.noat_ok (x := "Wanted") (f := "seats") (T.a5 8)
theorem Tx.n_Wanted_masks (T : Tx K mg) : NoAttr K (He.ga K "Wanted") "masks" := He.noat_ok (x := "Wanted") (f := "masks") (T.a5 9)
theorem Tx.n_Wanted_slots (T : Tx K mg) : NoAttr K (He.ga K "Wanted") "slots" := He.noat_ok (x := "Wanted") (f := "slots") (T.a5 10)
theorem Tx.m_Let_many_of (T : Tx K mg) : Meth K (He.ga K "Let") "many_of" (He.fAd K ("Let", some "many_of")) := He.meth_ok (x := "Let") (m := "many_of") (T.a5 11)
theorem Tx.x_ByNought (T : Tx K mg) : PySem.W.excIn K (He.ga K "ByNought") He.veBase "ValueError.__new__" = true ∧ PySem.W.keepIn K (.ref (He.ga K "ByNought")) = true ∧ PySem.W.subIn K (.ref (He.ga K "ByNought")) (.type "BaseException") = some true ∧ PySem.W.typeIn K (.ref (He.ga K "ByNought")) = some (.type "type") := He.exc_ok (x := "ByNought") (T.a5 12)
theorem Tx.y_ByNought (T : Tx K mg) : PySem.W.exmOne K (.ref (He.ga K "ByNought")) (.ref (He.ga K "ByNought")) = some true := He.exm_ok (x := "ByNought") (y := "ByNought") (b := true) (T.a5 13)
theorem Tx.d_kept (T : Tx K mg) : ∃ fd, FunD K "kept" "kept" (defArgs s_kept) (defBody s_kept) (defScope s_kept) [] [] (He.fAd K ("kept", none)) fd := T.e0 0
theorem Tx.d_divided (T : Tx K mg) : ∃ fd, FunD K "divided" "divided" (defArgs s_divided) (defBody s_divided) (defScope s_divided) [] [] (He.fAd K ("divided", none)) fd := T.e0 1
theorem Tx.d_done (T : Tx K mg) : ∃ fd, FunD K "done" "done" (defArgs s_done) (defBody s_done) (defScope s_done) [] [] (He.fAd K ("done", none)) fd := T.e0 2
theorem Tx.d_start_of (T : Tx K mg) : ∃ fd, FunD K "start_of" "start_of" (defArgs s_start_of) (defBody s_start_of) (defScope s_start_of) [] [] (He.fAd K ("start_of", none)) fd := T.e0 3
theorem Tx.d_need_of (T : Tx K mg) : ∃ fd, FunD K "need_of" "need_of" (defArgs s_need_of) (defBody s_need_of) (defScope s_need_of) [] [] (He.fAd K ("need_of", none)) fd := T.e0 4
theorem Tx.d_lay_leaf (T : Tx K mg) : ∃ fd, FunD K "lay_leaf" "lay_leaf" (defArgs s_lay_leaf) (defBody s_lay_leaf) (defScope s_lay_leaf) [] [] (He.fAd K ("lay_leaf", none)) fd := T.e0 5
theorem Tx.d_lay_beside (T : Tx K mg) : ∃ fd, FunD K "lay_beside" "lay_beside" (defArgs s_lay_beside) (defBody s_lay_beside) (defScope s_lay_beside) [] [] (He.fAd K ("lay_beside", none)) fd := T.e0 6
theorem Tx.d_lay_form (T : Tx K mg) : ∃ fd, FunD K "lay_form" "lay_form" (defArgs s_lay_form) (defBody s_lay_form) (defScope s_lay_form) [] [] (He.fAd K ("lay_form", none)) fd := T.e0 7
theorem Tx.d_count_of (T : Tx K mg) : ∃ fd, FunD K "count_of" "count_of" (defArgs s_count_of) (defBody s_count_of) (defScope s_count_of) [] [] (He.fAd K ("count_of", none)) fd := T.e0 8
theorem Tx.d_group_for (T : Tx K mg) : ∃ fd, FunD K "group_for" "group_for" (defArgs s_group_for) (defBody s_group_for) (defScope s_group_for) [] [] (He.fAd K ("group_for", none)) fd := T.e0 9
theorem Tx.d_lay_effect (T : Tx K mg) : ∃ fd, FunD K "lay_effect" "lay_effect" (defArgs s_lay_effect) (defBody s_lay_effect) (defScope s_lay_effect) [] [] (He.fAd K ("lay_effect", none)) fd := T.e0 10
theorem Tx.d_step_code (T : Tx K mg) : ∃ fd, FunD K "step_code" "step_code" (defArgs s_step_code) (defBody s_step_code) (defScope s_step_code) [] [] (He.fAd K ("step_code", none)) fd := T.e0 11
theorem Tx.d_steps_code (T : Tx K mg) : ∃ fd, FunD K "steps_code" "steps_code" (defArgs s_steps_code) (defBody s_steps_code) (defScope s_steps_code) [] [] (He.fAd K ("steps_code", none)) fd := T.e0 12
theorem Tx.d_made (T : Tx K mg) : ∃ fd, FunD K "made" "made" (defArgs s_made) (defBody s_made) (defScope s_made) [V.int 0] [] (He.fAd K ("made", none)) fd := T.e0 13
theorem Tx.d_begin_strip (T : Tx K mg) : ∃ fd, FunD K "begin_strip" "begin_strip" (defArgs s_begin_strip) (defBody s_begin_strip) (defScope s_begin_strip) [] [] (He.fAd K ("begin_strip", none)) fd := T.e0 14
theorem Tx.d_lane_active (T : Tx K mg) : ∃ fd, FunD K "lane_active" "lane_active" (defArgs s_lane_active) (defBody s_lane_active) (defScope s_lane_active) [] [] (He.fAd K ("lane_active", none)) fd := T.e0 15
theorem Tx.d_active_lanes (T : Tx K mg) : ∃ fd, FunD K "active_lanes" "active_lanes" (defArgs s_active_lanes) (defBody s_active_lanes) (defScope s_active_lanes) [] [] (He.fAd K ("active_lanes", none)) fd := T.e0 16
theorem Tx.d_seat_number (T : Tx K mg) : ∃ fd, FunD K "seat_number" "seat_number" (defArgs s_seat_number) (defBody s_seat_number) (defScope s_seat_number) [] [] (He.fAd K ("seat_number", none)) fd := T.e0 17
theorem Tx.d_read_cell (T : Tx K mg) : ∃ fd, FunD K "read_cell" "read_cell" (defArgs s_read_cell) (defBody s_read_cell) (defScope s_read_cell) [] [] (He.fAd K ("read_cell", none)) fd := T.e0 18
theorem Tx.d_write_cell (T : Tx K mg) : ∃ fd, FunD K "write_cell" "write_cell" (defArgs s_write_cell) (defBody s_write_cell) (defScope s_write_cell) [] [] (He.fAd K ("write_cell", none)) fd := T.e0 19
theorem Tx.d_slot_address (T : Tx K mg) : ∃ fd, FunD K "slot_address" "slot_address" (defArgs s_slot_address) (defBody s_slot_address) (defScope s_slot_address) [] [] (He.fAd K ("slot_address", none)) fd := T.e0 20
theorem Tx.d_read_slot (T : Tx K mg) : ∃ fd, FunD K "read_slot" "read_slot" (defArgs s_read_slot) (defBody s_read_slot) (defScope s_read_slot) [] [] (He.fAd K ("read_slot", none)) fd := T.e0 21
theorem Tx.d_write_slot (T : Tx K mg) : ∃ fd, FunD K "write_slot" "write_slot" (defArgs s_write_slot) (defBody s_write_slot) (defScope s_write_slot) [] [] (He.fAd K ("write_slot", none)) fd := T.e0 22
theorem Tx.d_trim_strip (T : Tx K mg) : ∃ fd, FunD K "trim_strip" "trim_strip" (defArgs s_trim_strip) (defBody s_trim_strip) (defScope s_trim_strip) [] [] (He.fAd K ("trim_strip", none)) fd := T.e0 23
theorem Tx.d_stop_refusal (T : Tx K mg) : ∃ fd, FunD K "stop_refusal" "stop_refusal" (defArgs s_stop_refusal) (defBody s_stop_refusal) (defScope s_stop_refusal) [] [] (He.fAd K ("stop_refusal", none)) fd := T.e0 24
theorem Tx.d_save_lanes (T : Tx K mg) : ∃ fd, FunD K "save_lanes" "save_lanes" (defArgs s_save_lanes) (defBody s_save_lanes) (defScope s_save_lanes) [] [] (He.fAd K ("save_lanes", none)) fd := T.e0 25
theorem Tx.d_store_lanes (T : Tx K mg) : ∃ fd, FunD K "store_lanes" "store_lanes" (defArgs s_store_lanes) (defBody s_store_lanes) (defScope s_store_lanes) [] [] (He.fAd K ("store_lanes", none)) fd := T.e0 26
theorem Tx.d_spread_read (T : Tx K mg) : ∃ fd, FunD K "spread_read" "spread_read" (defArgs s_spread_read) (defBody s_spread_read) (defScope s_spread_read) [] [] (He.fAd K ("spread_read", none)) fd := T.e0 27
theorem Tx.d_gather_got (T : Tx K mg) : ∃ fd, FunD K "gather_got" "gather_got" (defArgs s_gather_got) (defBody s_gather_got) (defScope s_gather_got) [] [] (He.fAd K ("gather_got", none)) fd := T.e0 28
theorem Tx.d_op_got (T : Tx K mg) : ∃ fd, FunD K "op_got" "op_got" (defArgs s_op_got) (defBody s_op_got) (defScope s_op_got) [] [] (He.fAd K ("op_got", none)) fd := T.e0 29
theorem Tx.d_lane_got (T : Tx K mg) : ∃ fd, FunD K "lane_got" "lane_got" (defArgs s_lane_got) (defBody s_lane_got) (defScope s_lane_got) [] [] (He.fAd K ("lane_got", none)) fd := T.e1 0
theorem Tx.d_lay_seat (T : Tx K mg) : ∃ fd, FunD K "lay_seat" "lay_seat" (defArgs s_lay_seat) (defBody s_lay_seat) (defScope s_lay_seat) [] [] (He.fAd K ("lay_seat", none)) fd := T.e1 1
theorem Tx.d_begin_round (T : Tx K mg) : ∃ fd, FunD K "begin_round" "begin_round" (defArgs s_begin_round) (defBody s_begin_round) (defScope s_begin_round) [] [] (He.fAd K ("begin_round", none)) fd := T.e1 2
theorem Tx.d_next_strip (T : Tx K mg) : ∃ fd, FunD K "next_strip" "next_strip" (defArgs s_next_strip) (defBody s_next_strip) (defScope s_next_strip) [] [] (He.fAd K ("next_strip", none)) fd := T.e1 3
theorem Tx.d_play_effect (T : Tx K mg) : ∃ fd, FunD K "play_effect" "play_effect" (defArgs s_play_effect) (defBody s_play_effect) (defScope s_play_effect) [] [] (He.fAd K ("play_effect", none)) fd := T.e1 4
theorem Tx.d_play_step (T : Tx K mg) : ∃ fd, FunD K "play_step" "play_step" (defArgs s_play_step) (defBody s_play_step) (defScope s_play_step) [] [] (He.fAd K ("play_step", none)) fd := T.e1 5
theorem Tx.d_ran (T : Tx K mg) : ∃ fd, FunD K "ran" "ran" (defArgs s_ran) (defBody s_ran) (defScope s_ran) [] [] (He.fAd K ("ran", none)) fd := T.e1 6
theorem Tx.d_lays_seat (T : Tx K mg) : ∃ fd, FunD K "lays_seat" "lays_seat" (defArgs s_lays_seat) (defBody s_lays_seat) (defScope s_lays_seat) [] [] (He.fAd K ("lays_seat", none)) fd := T.e1 7
theorem Tx.d_lays_mask (T : Tx K mg) : ∃ fd, FunD K "lays_mask" "lays_mask" (defArgs s_lays_mask) (defBody s_lays_mask) (defScope s_lays_mask) [] [] (He.fAd K ("lays_mask", none)) fd := T.e1 8
theorem Tx.d_may_fault (T : Tx K mg) : ∃ fd, FunD K "may_fault" "may_fault" (defArgs s_may_fault) (defBody s_may_fault) (defScope s_may_fault) [] [] (He.fAd K ("may_fault", none)) fd := T.e1 9
theorem Tx.d_writes_row (T : Tx K mg) : ∃ fd, FunD K "writes_row" "writes_row" (defArgs s_writes_row) (defBody s_writes_row) (defScope s_writes_row) [] [] (He.fAd K ("writes_row", none)) fd := T.e1 10
theorem Tx.d_seat_places (T : Tx K mg) : ∃ fd, FunD K "seat_places" "seat_places" (defArgs s_seat_places) (defBody s_seat_places) (defScope s_seat_places) [] [] (He.fAd K ("seat_places", none)) fd := T.e1 11
theorem Tx.d_mask_places (T : Tx K mg) : ∃ fd, FunD K "mask_places" "mask_places" (defArgs s_mask_places) (defBody s_mask_places) (defScope s_mask_places) [] [] (He.fAd K ("mask_places", none)) fd := T.e1 12
theorem Tx.d_folded_step (T : Tx K mg) : ∃ fd, FunD K "folded_step" "folded_step" (defArgs s_folded_step) (defBody s_folded_step) (defScope s_folded_step) [] [] (He.fAd K ("folded_step", none)) fd := T.e1 13
theorem Tx.d_turned_step (T : Tx K mg) : ∃ fd, FunD K "turned_step" "turned_step" (defArgs s_turned_step) (defBody s_turned_step) (defScope s_turned_step) [] [] (He.fAd K ("turned_step", none)) fd := T.e1 14
theorem Tx.d_key_of (T : Tx K mg) : ∃ fd, FunD K "key_of" "key_of" (defArgs s_key_of) (defBody s_key_of) (defScope s_key_of) [] [] (He.fAd K ("key_of", none)) fd := T.e1 15
theorem Tx.d_note_seat (T : Tx K mg) : ∃ fd, FunD K "note_seat" "note_seat" (defArgs s_note_seat) (defBody s_note_seat) (defScope s_note_seat) [] [] (He.fAd K ("note_seat", none)) fd := T.e1 16
theorem Tx.d_note_slot (T : Tx K mg) : ∃ fd, FunD K "note_slot" "note_slot" (defArgs s_note_slot) (defBody s_note_slot) (defScope s_note_slot) [] [] (He.fAd K ("note_slot", none)) fd := T.e1 17
theorem Tx.d_note_step (T : Tx K mg) : ∃ fd, FunD K "note_step" "note_step" (defArgs s_note_step) (defBody s_note_step) (defScope s_note_step) [] [] (He.fAd K ("note_step", none)) fd := T.e1 18
theorem Tx.d_known_steps (T : Tx K mg) : ∃ fd, FunD K "known_steps" "known_steps" (defArgs s_known_steps) (defBody s_known_steps) (defScope s_known_steps) [] [] (He.fAd K ("known_steps", none)) fd := T.e1 19
theorem Tx.d_is_wanted (T : Tx K mg) : ∃ fd, FunD K "is_wanted" "is_wanted" (defArgs s_is_wanted) (defBody s_is_wanted) (defScope s_is_wanted) [] [] (He.fAd K ("is_wanted", none)) fd := T.e1 20
theorem Tx.d_want_parts (T : Tx K mg) : ∃ fd, FunD K "want_parts" "want_parts" (defArgs s_want_parts) (defBody s_want_parts) (defScope s_want_parts) [] [] (He.fAd K ("want_parts", none)) fd := T.e1 21
theorem Tx.d_live_steps (T : Tx K mg) : ∃ fd, FunD K "live_steps" "live_steps" (defArgs s_live_steps) (defBody s_live_steps) (defScope s_live_steps) [] [] (He.fAd K ("live_steps", none)) fd := T.e1 22
theorem Tx.d_shorter_once (T : Tx K mg) : ∃ fd, FunD K "shorter_once" "shorter_once" (defArgs s_shorter_once) (defBody s_shorter_once) (defScope s_shorter_once) [] [] (He.fAd K ("shorter_once", none)) fd := T.e1 23
theorem Tx.d_shortened (T : Tx K mg) : ∃ fd, FunD K "shortened" "shortened" (defArgs s_shortened) (defBody s_shortened) (defScope s_shortened) [] [] (He.fAd K ("shortened", none)) fd := T.e1 24
theorem Tx.d_law_whole (T : Tx K mg) : ∃ fd, FunD K "_law_whole" "_law_whole" (defArgs s_law_whole) (defBody s_law_whole) (defScope s_law_whole) [] [] (He.fAd K ("_law_whole", none)) fd := T.e1 25
theorem Tx.d_law_cell_at (T : Tx K mg) : ∃ fd, FunD K "_law_cell_at" "_law_cell_at" (defArgs s_law_cell_at) (defBody s_law_cell_at) (defScope s_law_cell_at) [] [] (He.fAd K ("_law_cell_at", none)) fd := T.e1 26
theorem Tx.d_law_kept_by (T : Tx K mg) : ∃ fd, FunD K "_law_kept_by" "_law_kept_by" (defArgs s_law_kept_by) (defBody s_law_kept_by) (defScope s_law_kept_by) [] [] (He.fAd K ("_law_kept_by", none)) fd := T.e1 27
theorem Tx.d_law_some (T : Tx K mg) : ∃ fd, FunD K "_law_some" "_law_some" (defArgs s_law_some) (defBody s_law_some) (defScope s_law_some) [] [] (He.fAd K ("_law_some", none)) fd := T.e1 28
theorem Tx.d_law_told (T : Tx K mg) : ∃ fd, FunD K "_law_told" "_law_told" (defArgs s_law_told) (defBody s_law_told) (defScope s_law_told) [] [] (He.fAd K ("_law_told", none)) fd := T.e1 29
theorem Tx.d_law_wrap (T : Tx K mg) : ∃ fd, FunD K "_law_wrap" "_law_wrap" (defArgs s_law_wrap) (defBody s_law_wrap) (defScope s_law_wrap) [] [] (He.fAd K ("_law_wrap", none)) fd := T.e2 0
theorem Tx.d_law_planted (T : Tx K mg) : ∃ fd, FunD K "_law_planted" "_law_planted" (defArgs s_law_planted) (defBody s_law_planted) (defScope s_law_planted) [] [] (He.fAd K ("_law_planted", none)) fd := T.e2 1
theorem Tx.d_law_play (T : Tx K mg) : ∃ fd, FunD K "_law_play" "_law_play" (defArgs s_law_play) (defBody s_law_play) (defScope s_law_play) [] [] (He.fAd K ("_law_play", none)) fd := T.e2 2
theorem Tx.d_law (T : Tx K mg) : ∃ fd, FunD K "law" "law" (defArgs s_law) (defBody s_law) (defScope s_law) [] [] (He.fAd K ("law", none)) fd := T.e2 3
theorem Tx.d_Number_init (T : Tx K mg) : ∃ fd, FunD K "__init__" "Number.__init__" (defArgs s_Number_init) (defBody s_Number_init) (defScope s_Number_init) [] [] (He.fAd K ("Number", some "__init__")) fd := T.e2 4
theorem Tx.d_Cell_init (T : Tx K mg) : ∃ fd, FunD K "__init__" "Cell.__init__" (defArgs s_Cell_init) (defBody s_Cell_init) (defScope s_Cell_init) [] [] (He.fAd K ("Cell", some "__init__")) fd := T.e2 5
theorem Tx.d_At_init (T : Tx K mg) : ∃ fd, FunD K "__init__" "At.__init__" (defArgs s_At_init) (defBody s_At_init) (defScope s_At_init) [] [] (He.fAd K ("At", some "__init__")) fd := T.e2 6
theorem Tx.d_Pair_init (T : Tx K mg) : ∃ fd, FunD K "__init__" "Pair.__init__" (defArgs s_Pair_init) (defBody s_Pair_init) (defScope s_Pair_init) [] [] (He.fAd K ("Pair", some "__init__")) fd := T.e2 7
theorem Tx.d_Hand_init (T : Tx K mg) : ∃ fd, FunD K "__init__" "Hand.__init__" (defArgs s_Hand_init) (defBody s_Hand_init) (defScope s_Hand_init) [] [] (He.fAd K ("Hand", some "__init__")) fd := T.e2 8
theorem Tx.d_Hand_note (T : Tx K mg) : ∃ fd, FunD K "note" "Hand.note" (defArgs s_Hand_note) (defBody s_Hand_note) (defScope s_Hand_note) [] [] (He.fAd K ("Hand", some "note")) fd := T.e2 9
theorem Tx.d_Step_init (T : Tx K mg) : ∃ fd, FunD K "__init__" "Step.__init__" (defArgs s_Step_init) (defBody s_Step_init) (defScope s_Step_init) [] [] (He.fAd K ("Step", some "__init__")) fd := T.e2 10
theorem Tx.d_Let_many_of (T : Tx K mg) : ∃ fd, FunD K "many_of" "Step.many_of" (defArgs s_Step_many_of) (defBody s_Step_many_of) (defScope s_Step_many_of) [] [] (He.fAd K ("Let", some "many_of")) fd := T.e2 11
theorem Tx.d_Let_init (T : Tx K mg) : ∃ fd, FunD K "__init__" "Let.__init__" (defArgs s_Let_init) (defBody s_Let_init) (defScope s_Let_init) [V.non] [] (He.fAd K ("Let", some "__init__")) fd := T.e2 12
theorem Tx.d_Program_init (T : Tx K mg) : ∃ fd, FunD K "__init__" "Program.__init__" (defArgs s_Program_init) (defBody s_Program_init) (defScope s_Program_init) [] [] (He.fAd K ("Program", some "__init__")) fd := T.e2 13
theorem Tx.d_Boxes_init (T : Tx K mg) : ∃ fd, FunD K "__init__" "Boxes.__init__" (defArgs s_Boxes_init) (defBody s_Boxes_init) (defScope s_Boxes_init) [] [] (He.fAd K ("Boxes", some "__init__")) fd := T.e2 14
theorem Tx.d_Boxes_lay (T : Tx K mg) : ∃ fd, FunD K "lay" "Boxes.lay" (defArgs s_Boxes_lay) (defBody s_Boxes_lay) (defScope s_Boxes_lay) [] [] (He.fAd K ("Boxes", some "lay")) fd := T.e2 15
theorem Tx.d_Boxes_number_at (T : Tx K mg) : ∃ fd, FunD K "number_at" "Boxes.number_at" (defArgs s_Boxes_number_at) (defBody s_Boxes_number_at) (defScope s_Boxes_number_at) [] [] (He.fAd K ("Boxes", some "number_at")) fd := T.e2 16
theorem Tx.d_Feed_init (T : Tx K mg) : ∃ fd, FunD K "__init__" "Feed.__init__" (defArgs s_Feed_init) (defBody s_Feed_init) (defScope s_Feed_init) [] [] (He.fAd K ("Feed", some "__init__")) fd := T.e2 17
theorem Tx.d_Feed_taken (T : Tx K mg) : ∃ fd, FunD K "taken" "Feed.taken" (defArgs s_Feed_taken) (defBody s_Feed_taken) (defScope s_Feed_taken) [] [] (He.fAd K ("Feed", some "taken")) fd := T.e2 18
theorem Tx.d_Strip_init (T : Tx K mg) : ∃ fd, FunD K "__init__" "Strip.__init__" (defArgs s_Strip_init) (defBody s_Strip_init) (defScope s_Strip_init) [] [] (He.fAd K ("Strip", some "__init__")) fd := T.e2 19
theorem Tx.d_Bench_init (T : Tx K mg) : ∃ fd, FunD K "__init__" "Bench.__init__" (defArgs s_Bench_init) (defBody s_Bench_init) (defScope s_Bench_init) [] [] (He.fAd K ("Bench", some "__init__")) fd := T.e2 20
theorem Tx.d_Course_init (T : Tx K mg) : ∃ fd, FunD K "__init__" "Course.__init__" (defArgs s_Course_init) (defBody s_Course_init) (defScope s_Course_init) [] [] (He.fAd K ("Course", some "__init__")) fd := T.e2 21
theorem Tx.d_Holdings_init (T : Tx K mg) : ∃ fd, FunD K "__init__" "Holdings.__init__" (defArgs s_Holdings_init) (defBody s_Holdings_init) (defScope s_Holdings_init) [] [] (He.fAd K ("Holdings", some "__init__")) fd := T.e2 22
theorem Tx.d_Holdings_thing_of (T : Tx K mg) : ∃ fd, FunD K "thing_of" "Holdings.thing_of" (defArgs s_Holdings_thing_of) (defBody s_Holdings_thing_of) (defScope s_Holdings_thing_of) [] [] (He.fAd K ("Holdings", some "thing_of")) fd := T.e2 23
theorem Tx.d_Holdings_seat_thing (T : Tx K mg) : ∃ fd, FunD K "seat_thing" "Holdings.seat_thing" (defArgs s_Holdings_seat_thing) (defBody s_Holdings_seat_thing) (defScope s_Holdings_seat_thing) [] [] (He.fAd K ("Holdings", some "seat_thing")) fd := T.e2 24
theorem Tx.d_Holdings_mask_thing (T : Tx K mg) : ∃ fd, FunD K "mask_thing" "Holdings.mask_thing" (defArgs s_Holdings_mask_thing) (defBody s_Holdings_mask_thing) (defScope s_Holdings_mask_thing) [] [] (He.fAd K ("Holdings", some "mask_thing")) fd := T.e2 25
theorem Tx.d_Holdings_slot_thing (T : Tx K mg) : ∃ fd, FunD K "slot_thing" "Holdings.slot_thing" (defArgs s_Holdings_slot_thing) (defBody s_Holdings_slot_thing) (defScope s_Holdings_slot_thing) [] [] (He.fAd K ("Holdings", some "slot_thing")) fd := T.e2 26
theorem Tx.d_Holdings_root_at (T : Tx K mg) : ∃ fd, FunD K "root_at" "Holdings.root_at" (defArgs s_Holdings_root_at) (defBody s_Holdings_root_at) (defScope s_Holdings_root_at) [] [] (He.fAd K ("Holdings", some "root_at")) fd := T.e2 27
theorem Tx.d_Holdings_best_seat (T : Tx K mg) : ∃ fd, FunD K "best_seat" "Holdings.best_seat" (defArgs s_Holdings_best_seat) (defBody s_Holdings_best_seat) (defScope s_Holdings_best_seat) [] [] (He.fAd K ("Holdings", some "best_seat")) fd := T.e2 28
theorem Tx.d_Holdings_best_mask (T : Tx K mg) : ∃ fd, FunD K "best_mask" "Holdings.best_mask" (defArgs s_Holdings_best_mask) (defBody s_Holdings_best_mask) (defScope s_Holdings_best_mask) [] [] (He.fAd K ("Holdings", some "best_mask")) fd := T.e2 29
theorem Tx.d_Wanted_init (T : Tx K mg) : ∃ fd, FunD K "__init__" "Wanted.__init__" (defArgs s_Wanted_init) (defBody s_Wanted_init) (defScope s_Wanted_init) [] [] (He.fAd K ("Wanted", some "__init__")) fd := T.e3 0
theorem ba3 {a b c : Bool} (h : (a && (b && c)) = true) : a = true ∧ b = true ∧ c = true := by
  obtain ⟨h1, h2⟩ := He.ba h
  obtain ⟨h3, h4⟩ := He.ba h2
  exact ⟨h1, h3, h4⟩
/-- what isinstance asks of the instances of one of our classes -/
structure InsT (K : PySem.W.Frag) (C : Addr) : Prop where
  ha : PySem.W.findIn K (.ref C) "__class__" = some (some (.builtin "object.__class__"))
  hn : PySem.W.specialIn K (.builtin "object.__class__") "__get__" = some (some (.builtin "getset_descriptor.__get__"))
  ht : PySem.W.takesIn K (.builtin "object.__class__") = some true
  hm : PySem.W.mroIn K C (.type "object") = some true
theorem Tx.ins (T : Tx K mg) (x : Str) (h : x ∈ inss := by decide +kernel) : InsT K (He.ga K x) := by
  obtain ⟨h1, h2, h3⟩ := ba3 (show ((inss.all fun x => insB K x) && ((kits.all fun q => kitB2 K q.1 q.2.1 q.2.2) && clsB K "Step" "__init__")) = true from T.c.e)
  obtain ⟨a, b⟩ := He.ba (show (decide (PySem.W.findIn K (.ref (He.ga K x)) "__class__" = some (some (.builtin "object.__class__"))) && (decide (PySem.W.specialIn K (.builtin "object.__class__") "__get__" = some (some (.builtin "getset_descriptor.__get__"))) &&
    (decide (PySem.W.takesIn K (.builtin "object.__class__") = some true) && decide (PySem.W.mroIn K (He.ga K x) (.type "object") = some true)))) = true from List.all_eq_true.mp h1 x h)
  obtain ⟨b, c, d⟩ := ba3 b
  exact ⟨of_decide_eq_true a, of_decide_eq_true b, of_decide_eq_true c, of_decide_eq_true d⟩
theorem Tx.kit (T : Tx K mg) (x y : Str) (b : Bool) (h : (x, y, b) ∈ kits := by decide +kernel) : PySem.W.kitOne K (.ref (He.ga K x)) (.ref (He.ga K y)) = some b := by
  obtain ⟨h1, h2, h3⟩ := ba3 (show ((inss.all fun x => insB K x) && ((kits.all fun q => kitB2 K q.1 q.2.1 q.2.2) && clsB K "Step" "__init__")) = true from T.c.e)
  exact of_decide_eq_true (List.all_eq_true.mp h2 (x, y, b) h)
theorem Tx.step_init (T : Tx K mg) : ClX.CRead K (He.ga K "Step") (.type "type") ∧ ClX.CVal K (He.ga K "Step") (.type "type") "__init__" (.ref (He.fAd K ("Step", some "__init__"))) (.ref (He.fAd K ("Step", some "__init__"))) := by
  obtain ⟨h1, h2, h3⟩ := ba3 (show ((inss.all fun x => insB K x) && ((kits.all fun q => kitB2 K q.1 q.2.1 q.2.2) && clsB K "Step" "__init__")) = true from T.c.e)
  obtain ⟨a, b, c⟩ := ba3 (show (PySem.W.readsIn K (He.ga K "Step") (.type "type") && (decide (PySem.W.specialIn K (.ref (He.ga K "Step")) "__getattribute__" = some (some (.builtin "type.__getattribute__"))) &&
    (match PySem.W.findCls K (.ref (He.ga K "Step")) (.type "type") "__init__" with
      | some (.val v) => decide (v = .ref (He.ma K (He.ga K "Step") "__init__"))
      | _ => false))) = true from h3)
  refine ⟨⟨a, of_decide_eq_true b⟩, ?_, rfl⟩
  split at c
  · rename_i v e
    rw [e, of_decide_eq_true c]
    all_goals rfl
  · cases c
end
abbrev C_ByNought (K : PySem.W.Frag) : Addr := He.ga K "ByNought"
abbrev C_Number (K : PySem.W.Frag) : Addr := He.ga K "Number"
def F_Number (x_number : V) : List (Str × V) := [("number", x_number)]
section
variable {x_number y : V} {K : PySem.W.Frag} {mg : Str → Option Value} {H : Hp} {p dx : Addr} {σ : L2.St} {ta tv : TE} {D : Ends}
theorem L_Number_number : List.lookup ("number" : Str) (F_Number x_number) = some x_number := by kernel_rfl
theorem P_Number_number : putF "number" y (F_Number x_number) = F_Number y := by kernel_rfl
theorem N_Number : (F_Number x_number).length < 1000 := by show 1 < 1000; decide
/-- read -/
theorem r_Number_number (T : Tx K mg) (h : Val ta σ H (.ref p)) (ho : H p = some (.ins (C_Number K) dx (F_Number x_number))) : Val (tFld K ta "number") σ H x_number := val_fld h ho T.c_Number T.n_Number_number L_Number_number
/-- store -/
theorem w_Number_number (T : Tx K mg) (hv : Val tv σ H y) (h : Val ta σ H (.ref p)) (ho : H p = some (.ins (C_Number K) dx (F_Number x_number))) (q : D.nx σ (upd H p (.ins (C_Number K) dx (F_Number y)))) : sFld K ta tv "number" D σ H :=
  st_fld hv h ho T.c_Number T.n_Number_number N_Number (by rw [P_Number_number]; exact q)
theorem I_Number_0 : putF "number" x_number ([] : List (Str × V)) = ((F_Number x_number) : List (Str × V)) := by kernel_rfl
theorem J_Number_0 : ([] : List (Str × V)).length < 1000 := by show 0 < 1000; decide
end
abbrev C_Cell (K : PySem.W.Frag) : Addr := He.ga K "Cell"
def F_Cell (x_row : V) : List (Str × V) := [("row", x_row)]
section
variable {x_row y : V} {K : PySem.W.Frag} {mg : Str → Option Value} {H : Hp} {p dx : Addr} {σ : L2.St} {ta tv : TE} {D : Ends}
theorem L_Cell_row : List.lookup ("row" : Str) (F_Cell x_row) = some x_row := by kernel_rfl
theorem P_Cell_row : putF "row" y (F_Cell x_row) = F_Cell y := by kernel_rfl
theorem N_Cell : (F_Cell x_row).length < 1000 := by show 1 < 1000; decide
/-- read -/
theorem r_Cell_row (T : Tx K mg) (h : Val ta σ H (.ref p)) (ho : H p = some (.ins (C_Cell K) dx (F_Cell x_row))) : Val (tFld K ta "row") σ H x_row := val_fld h ho T.c_Cell T.n_Cell_row L_Cell_row
/-- store -/
theorem w_Cell_row (T : Tx K mg) (hv : Val tv σ H y) (h : Val ta σ H (.ref p)) (ho : H p = some (.ins (C_Cell K) dx (F_Cell x_row))) (q : D.nx σ (upd H p (.ins (C_Cell K) dx (F_Cell y)))) : sFld K ta tv "row" D σ H :=
  st_fld hv h ho T.c_Cell T.n_Cell_row N_Cell (by rw [P_Cell_row]; exact q)
theorem I_Cell_0 : putF "row" x_row ([] : List (Str × V)) = ((F_Cell x_row) : List (Str × V)) := by kernel_rfl
theorem J_Cell_0 : ([] : List (Str × V)).length < 1000 := by show 0 < 1000; decide
end
abbrev C_At (K : PySem.W.Frag) : Addr := He.ga K "At"
def F_At (x_row x_place : V) : List (Str × V) := [("row", x_row), ("place", x_place)]
section
variable {x_row x_place y : V} {K : PySem.W.Frag} {mg : Str → Option Value} {H : Hp} {p dx : Addr} {σ : L2.St} {ta tv : TE} {D : Ends}
theorem L_At_row : List.lookup ("row" : Str) (F_At x_row x_place) = some x_row := by kernel_rfl
theorem P_At_row : putF "row" y (F_At x_row x_place) = F_At y x_place := by kernel_rfl
theorem L_At_place : List.lookup ("place" : Str) (F_At x_row x_place) = some x_place := by kernel_rfl
theorem P_At_place : putF "place" y (F_At x_row x_place) = F_At x_row y := by kernel_rfl
theorem N_At : (F_At x_row x_place).length < 1000 := by show 2 < 1000; decide
/-- read -/
theorem r_At_row (T : Tx K mg) (h : Val ta σ H (.ref p)) (ho : H p = some (.ins (C_At K) dx (F_At x_row x_place))) : Val (tFld K ta "row") σ H x_row := val_fld h ho T.c_At T.n_At_row L_At_row
/-- read -/
theorem r_At_place (T : Tx K mg) (h : Val ta σ H (.ref p)) (ho : H p = some (.ins (C_At K) dx (F_At x_row x_place))) : Val (tFld K ta "place") σ H x_place := val_fld h ho T.c_At T.n_At_place L_At_place
/-- store -/
theorem w_At_row (T : Tx K mg) (hv : Val tv σ H y) (h : Val ta σ H (.ref p)) (ho : H p = some (.ins (C_At K) dx (F_At x_row x_place))) (q : D.nx σ (upd H p (.ins (C_At K) dx (F_At y x_place)))) : sFld K ta tv "row" D σ H :=
  st_fld hv h ho T.c_At T.n_At_row N_At (by rw [P_At_row]; exact q)
/-- store -/
theorem w_At_place (T : Tx K mg) (hv : Val tv σ H y) (h : Val ta σ H (.ref p)) (ho : H p = some (.ins (C_At K) dx (F_At x_row x_place))) (q : D.nx σ (upd H p (.ins (C_At K) dx (F_At x_row y)))) : sFld K ta tv "place" D σ H :=
  st_fld hv h ho T.c_At T.n_At_place N_At (by rw [P_At_place]; exact q)
theorem I_At_0 : putF "row" x_row ([] : List (Str × V)) = ([("row", x_row)] : List (Str × V)) := by kernel_rfl
theorem J_At_0 : ([] : List (Str × V)).length < 1000 := by show 0 < 1000; decide
theorem I_At_1 : putF "place" x_place ([("row", x_row)] : List (Str × V)) = ((F_At x_row x_place) : List (Str × V)) := by kernel_rfl
theorem J_At_1 : ([("row", x_row)] : List (Str × V)).length < 1000 := by show 1 < 1000; decide
end
abbrev C_Pair (K : PySem.W.Frag) : Addr := He.ga K "Pair"
def F_Pair (x_sign x_left x_right : V) : List (Str × V) := [("sign", x_sign), ("left", x_left), ("right", x_right)]
section
variable {x_sign x_left x_right y : V} {K : PySem.W.Frag} {mg : Str → Option Value} {H : Hp} {p dx : Addr} {σ : L2.St} {ta tv : TE} {D : Ends}
theorem L_Pair_sign : List.lookup ("sign" : Str) (F_Pair x_sign x_left x_right) = some x_sign := by kernel_rfl
theorem P_Pair_sign : putF "sign" y (F_Pair x_sign x_left x_right) = F_Pair y x_left x_right := by kernel_rfl
theorem L_Pair_left : List.lookup ("left" : Str) (F_Pair x_sign x_left x_right) = some x_left := by kernel_rfl
theorem P_Pair_left : putF "left" y (F_Pair x_sign x_left x_right) = F_Pair x_sign y x_right := by kernel_rfl
theorem L_Pair_right : List.lookup ("right" : Str) (F_Pair x_sign x_left x_right) = some x_right := by kernel_rfl
theorem P_Pair_right : putF "right" y (F_Pair x_sign x_left x_right) = F_Pair x_sign x_left y := by kernel_rfl
theorem N_Pair : (F_Pair x_sign x_left x_right).length < 1000 := by show 3 < 1000; decide
/-- read -/
theorem r_Pair_sign (T : Tx K mg) (h : Val ta σ H (.ref p)) (ho : H p = some (.ins (C_Pair K) dx (F_Pair x_sign x_left x_right))) : Val (tFld K ta "sign") σ H x_sign := val_fld h ho T.c_Pair T.n_Pair_sign L_Pair_sign
/-- read -/
theorem r_Pair_left (T : Tx K mg) (h : Val ta σ H (.ref p)) (ho : H p = some (.ins (C_Pair K) dx (F_Pair x_sign x_left x_right))) : Val (tFld K ta "left") σ H x_left := val_fld h ho T.c_Pair T.n_Pair_left L_Pair_left
/-- read -/
theorem r_Pair_right (T : Tx K mg) (h : Val ta σ H (.ref p)) (ho : H p = some (.ins (C_Pair K) dx (F_Pair x_sign x_left x_right))) : Val (tFld K ta "right") σ H x_right := val_fld h ho T.c_Pair T.n_Pair_right L_Pair_right
/-- store -/
theorem w_Pair_sign (T : Tx K mg) (hv : Val tv σ H y) (h : Val ta σ H (.ref p)) (ho : H p = some (.ins (C_Pair K) dx (F_Pair x_sign x_left x_right))) (q : D.nx σ (upd H p (.ins (C_Pair K) dx (F_Pair y x_left x_right)))) : sFld K ta tv "sign" D σ H :=
  st_fld hv h ho T.c_Pair T.n_Pair_sign N_Pair (by rw [P_Pair_sign]; exact q)
/-- store -/
theorem w_Pair_left (T : Tx K mg) (hv : Val tv σ H y) (h : Val ta σ H (.ref p)) (ho : H p = some (.ins (C_Pair K) dx (F_Pair x_sign x_left x_right))) (q : D.nx σ (upd H p (.ins (C_Pair K) dx (F_Pair x_sign y x_right)))) : sFld K ta tv "left" D σ H :=
  st_fld hv h ho T.c_Pair T.n_Pair_left N_Pair (by rw [P_Pair_left]; exact q)
/-- store -/
theorem w_Pair_right (T : Tx K mg) (hv : Val tv σ H y) (h : Val ta σ H (.ref p)) (ho : H p = some (.ins (C_Pair K) dx (F_Pair x_sign x_left x_right))) (q : D.nx σ (upd H p (.ins (C_Pair K) dx (F_Pair x_sign x_left y)))) : sFld K ta tv "right" D σ H :=
  st_fld hv h ho T.c_Pair T.n_Pair_right N_Pair (by rw [P_Pair_right]; exact q)
theorem I_Pair_0 : putF "sign" x_sign ([] : List (Str × V)) = ([("sign", x_sign)] : List (Str × V)) := by kernel_rfl
theorem J_Pair_0 : ([] : List (Str × V)).length < 1000 := by show 0 < 1000; decide
theorem I_Pair_1 : putF "left" x_left ([("sign", x_sign)] : List (Str × V)) = ([("sign", x_sign), ("left", x_left)] : List (Str × V)) := by kernel_rfl
theorem J_Pair_1 : ([("sign", x_sign)] : List (Str × V)).length < 1000 := by show 1 < 1000; decide
theorem I_Pair_2 : putF "right" x_right ([("sign", x_sign), ("left", x_left)] : List (Str × V)) = ((F_Pair x_sign x_left x_right) : List (Str × V)) := by kernel_rfl
theorem J_Pair_2 : ([("sign", x_sign), ("left", x_left)] : List (Str × V)).length < 1000 := by show 2 < 1000; decide
end
abbrev C_Hand (K : PySem.W.Frag) : Addr := He.ga K "Hand"
def F_Hand (x_lengths x_functions x_seats x_code : V) : List (Str × V) := [("lengths", x_lengths), ("functions", x_functions), ("seats", x_seats), ("code", x_code)]
section
variable {x_lengths x_functions x_seats x_code y : V} {K : PySem.W.Frag} {mg : Str → Option Value} {H : Hp} {p dx : Addr} {σ : L2.St} {ta tv : TE} {D : Ends}
theorem L_Hand_lengths : List.lookup ("lengths" : Str) (F_Hand x_lengths x_functions x_seats x_code) = some x_lengths := by kernel_rfl
theorem P_Hand_lengths : putF "lengths" y (F_Hand x_lengths x_functions x_seats x_code) = F_Hand y x_functions x_seats x_code := by kernel_rfl
theorem L_Hand_functions : List.lookup ("functions" : Str) (F_Hand x_lengths x_functions x_seats x_code) = some x_functions := by kernel_rfl
theorem P_Hand_functions : putF "functions" y (F_Hand x_lengths x_functions x_seats x_code) = F_Hand x_lengths y x_seats x_code := by kernel_rfl
theorem L_Hand_seats : List.lookup ("seats" : Str) (F_Hand x_lengths x_functions x_seats x_code) = some x_seats := by kernel_rfl
theorem P_Hand_seats : putF "seats" y (F_Hand x_lengths x_functions x_seats x_code) = F_Hand x_lengths x_functions y x_code := by kernel_rfl
theorem L_Hand_code : List.lookup ("code" : Str) (F_Hand x_lengths x_functions x_seats x_code) = some x_code := by kernel_rfl
theorem P_Hand_code : putF "code" y (F_Hand x_lengths x_functions x_seats x_code) = F_Hand x_lengths x_functions x_seats y := by kernel_rfl
theorem N_Hand : (F_Hand x_lengths x_functions x_seats x_code).length < 1000 := by show 4 < 1000; decide
/-- read -/
theorem r_Hand_lengths (T : Tx K mg) (h : Val ta σ H (.ref p)) (ho : H p = some (.ins (C_Hand K) dx (F_Hand x_lengths x_functions x_seats x_code))) : Val (tFld K ta "lengths") σ H x_lengths := val_fld h ho T.c_Hand T.n_Hand_lengths L_Hand_lengths
/-- read -/
theorem r_Hand_functions (T : Tx K mg) (h : Val ta σ H (.ref p)) (ho : H p = some (.ins (C_Hand K) dx (F_Hand x_lengths x_functions x_seats x_code))) : Val (tFld K ta "functions") σ H x_functions := val_fld h ho T.c_Hand T.n_Hand_functions L_Hand_functions
/-- read -/
theorem r_Hand_seats (T : Tx K mg) (h : Val ta σ H (.ref p)) (ho : H p = some (.ins (C_Hand K) dx (F_Hand x_lengths x_functions x_seats x_code))) : Val (tFld K ta "seats") σ H x_seats := val_fld h ho T.c_Hand T.n_Hand_seats L_Hand_seats
/-- read -/
theorem r_Hand_code (T : Tx K mg) (h : Val ta σ H (.ref p)) (ho : H p = some (.ins (C_Hand K) dx (F_Hand x_lengths x_functions x_seats x_code))) : Val (tFld K ta "code") σ H x_code := val_fld h ho T.c_Hand T.n_Hand_code L_Hand_code
/-- store -/
theorem w_Hand_lengths (T : Tx K mg) (hv : Val tv σ H y) (h : Val ta σ H (.ref p)) (ho : H p = some (.ins (C_Hand K) dx (F_Hand x_lengths x_functions x_seats x_code))) (q : D.nx σ (upd H p (.ins (C_Hand K) dx (F_Hand y x_functions x_seats x_code)))) : sFld K ta tv "lengths" D σ H :=
  st_fld hv h ho T.c_Hand T.n_Hand_lengths N_Hand (by rw [P_Hand_lengths]; exact q)
/-- store -/
theorem w_Hand_functions (T : Tx K mg) (hv : Val tv σ H y) (h : Val ta σ H (.ref p)) (ho : H p = some (.ins (C_Hand K) dx (F_Hand x_lengths x_functions x_seats x_code))) (q : D.nx σ (upd H p (.ins (C_Hand K) dx (F_Hand x_lengths y x_seats x_code)))) : sFld K ta tv "functions" D σ H :=
  st_fld hv h ho T.c_Hand T.n_Hand_functions N_Hand (by rw [P_Hand_functions]; exact q)
/-- store -/
theorem w_Hand_seats (T : Tx K mg) (hv : Val tv σ H y) (h : Val ta σ H (.ref p)) (ho : H p = some (.ins (C_Hand K) dx (F_Hand x_lengths x_functions x_seats x_code))) (q : D.nx σ (upd H p (.ins (C_Hand K) dx (F_Hand x_lengths x_functions y x_code)))) : sFld K ta tv "seats" D σ H :=
  st_fld hv h ho T.c_Hand T.n_Hand_seats N_Hand (by rw [P_Hand_seats]; exact q)
/-- store -/
theorem w_Hand_code (T : Tx K mg) (hv : Val tv σ H y) (h : Val ta σ H (.ref p)) (ho : H p = some (.ins (C_Hand K) dx (F_Hand x_lengths x_functions x_seats x_code))) (q : D.nx σ (upd H p (.ins (C_Hand K) dx (F_Hand x_lengths x_functions x_seats y)))) : sFld K ta tv "code" D σ H :=
  st_fld hv h ho T.c_Hand T.n_Hand_code N_Hand (by rw [P_Hand_code]; exact q)
theorem I_Hand_0 : putF "lengths" x_lengths ([] : List (Str × V)) = ([("lengths", x_lengths)] : List (Str × V)) := by kernel_rfl
theorem J_Hand_0 : ([] : List (Str × V)).length < 1000 := by show 0 < 1000; decide
theorem I_Hand_1 : putF "functions" x_functions ([("lengths", x_lengths)] : List (Str × V)) = ([("lengths", x_lengths), ("functions", x_functions)] : List (Str × V)) := by kernel_rfl
theorem J_Hand_1 : ([("lengths", x_lengths)] : List (Str × V)).length < 1000 := by show 1 < 1000; decide
theorem I_Hand_2 : putF "seats" x_seats ([("lengths", x_lengths), ("functions", x_functions)] : List (Str × V)) = ([("lengths", x_lengths), ("functions", x_functions), ("seats", x_seats)] : List (Str × V)) := by kernel_rfl
theorem J_Hand_2 : ([("lengths", x_lengths), ("functions", x_functions)] : List (Str × V)).length < 1000 := by show 2 < 1000; decide
theorem I_Hand_3 : putF "code" x_code ([("lengths", x_lengths), ("functions", x_functions), ("seats", x_seats)] : List (Str × V)) = ((F_Hand x_lengths x_functions x_seats x_code) : List (Str × V)) := by kernel_rfl
theorem J_Hand_3 : ([("lengths", x_lengths), ("functions", x_functions), ("seats", x_seats)] : List (Str × V)).length < 1000 := by show 3 < 1000; decide
end
abbrev C_Let (K : PySem.W.Frag) : Addr := He.ga K "Let"
def F_Let (x_target x_value x_test : V) : List (Str × V) := [("target", x_target), ("value", x_value), ("test", x_test)]
section
variable {x_target x_value x_test y : V} {K : PySem.W.Frag} {mg : Str → Option Value} {H : Hp} {p dx : Addr} {σ : L2.St} {ta tv : TE} {D : Ends}
theorem L_Let_target : List.lookup ("target" : Str) (F_Let x_target x_value x_test) = some x_target := by kernel_rfl
theorem P_Let_target : putF "target" y (F_Let x_target x_value x_test) = F_Let y x_value x_test := by kernel_rfl
theorem L_Let_value : List.lookup ("value" : Str) (F_Let x_target x_value x_test) = some x_value := by kernel_rfl
theorem P_Let_value : putF "value" y (F_Let x_target x_value x_test) = F_Let x_target y x_test := by kernel_rfl
theorem L_Let_test : List.lookup ("test" : Str) (F_Let x_target x_value x_test) = some x_test := by kernel_rfl
theorem P_Let_test : putF "test" y (F_Let x_target x_value x_test) = F_Let x_target x_value y := by kernel_rfl
theorem N_Let : (F_Let x_target x_value x_test).length < 1000 := by show 3 < 1000; decide
/-- read -/
theorem r_Let_target (T : Tx K mg) (h : Val ta σ H (.ref p)) (ho : H p = some (.ins (C_Let K) dx (F_Let x_target x_value x_test))) : Val (tFld K ta "target") σ H x_target := val_fld h ho T.c_Let T.n_Let_target L_Let_target
/-- read -/
theorem r_Let_value (T : Tx K mg) (h : Val ta σ H (.ref p)) (ho : H p = some (.ins (C_Let K) dx (F_Let x_target x_value x_test))) : Val (tFld K ta "value") σ H x_value := val_fld h ho T.c_Let T.n_Let_value L_Let_value
/-- read -/
theorem r_Let_test (T : Tx K mg) (h : Val ta σ H (.ref p)) (ho : H p = some (.ins (C_Let K) dx (F_Let x_target x_value x_test))) : Val (tFld K ta "test") σ H x_test := val_fld h ho T.c_Let T.n_Let_test L_Let_test
/-- store -/
theorem w_Let_target (T : Tx K mg) (hv : Val tv σ H y) (h : Val ta σ H (.ref p)) (ho : H p = some (.ins (C_Let K) dx (F_Let x_target x_value x_test))) (q : D.nx σ (upd H p (.ins (C_Let K) dx (F_Let y x_value x_test)))) : sFld K ta tv "target" D σ H :=
  st_fld hv h ho T.c_Let T.n_Let_target N_Let (by rw [P_Let_target]; exact q)
/-- store -/
theorem w_Let_value (T : Tx K mg) (hv : Val tv σ H y) (h : Val ta σ H (.ref p)) (ho : H p = some (.ins (C_Let K) dx (F_Let x_target x_value x_test))) (q : D.nx σ (upd H p (.ins (C_Let K) dx (F_Let x_target y x_test)))) : sFld K ta tv "value" D σ H :=
  st_fld hv h ho T.c_Let T.n_Let_value N_Let (by rw [P_Let_value]; exact q)
/-- store -/
theorem w_Let_test (T : Tx K mg) (hv : Val tv σ H y) (h : Val ta σ H (.ref p)) (ho : H p = some (.ins (C_Let K) dx (F_Let x_target x_value x_test))) (q : D.nx σ (upd H p (.ins (C_Let K) dx (F_Let x_target x_value y)))) : sFld K ta tv "test" D σ H :=
  st_fld hv h ho T.c_Let T.n_Let_test N_Let (by rw [P_Let_test]; exact q)
theorem I_Let_0 : putF "target" x_target ([] : List (Str × V)) = ([("target", x_target)] : List (Str × V)) := by kernel_rfl
theorem J_Let_0 : ([] : List (Str × V)).length < 1000 := by show 0 < 1000; decide
theorem I_Let_1 : putF "value" x_value ([("target", x_target)] : List (Str × V)) = ([("target", x_target), ("value", x_value)] : List (Str × V)) := by kernel_rfl
theorem J_Let_1 : ([("target", x_target)] : List (Str × V)).length < 1000 := by show 1 < 1000; decide
theorem I_Let_2 : putF "test" x_test ([("target", x_target), ("value", x_value)] : List (Str × V)) = ((F_Let x_target x_value x_test) : List (Str × V)) := by kernel_rfl
theorem J_Let_2 : ([("target", x_target), ("value", x_value)] : List (Str × V)).length < 1000 := by show 2 < 1000; decide
end
abbrev C_Program (K : PySem.W.Frag) : Addr := He.ga K "Program"
def F_Program (x_lengths x_functions x_steps : V) : List (Str × V) := [("lengths", x_lengths), ("functions", x_functions), ("steps", x_steps)]
section
variable {x_lengths x_functions x_steps y : V} {K : PySem.W.Frag} {mg : Str → Option Value} {H : Hp} {p dx : Addr} {σ : L2.St} {ta tv : TE} {D : Ends}
theorem L_Program_lengths : List.lookup ("lengths" : Str) (F_Program x_lengths x_functions x_steps) = some x_lengths := by kernel_rfl
theorem P_Program_lengths : putF "lengths" y (F_Program x_lengths x_functions x_steps) = F_Program y x_functions x_steps := by kernel_rfl
theorem L_Program_functions : List.lookup ("functions" : Str) (F_Program x_lengths x_functions x_steps) = some x_functions := by kernel_rfl
theorem P_Program_functions : putF "functions" y (F_Program x_lengths x_functions x_steps) = F_Program x_lengths y x_steps := by kernel_rfl
theorem L_Program_steps : List.lookup ("steps" : Str) (F_Program x_lengths x_functions x_steps) = some x_steps := by kernel_rfl
theorem P_Program_steps : putF "steps" y (F_Program x_lengths x_functions x_steps) = F_Program x_lengths x_functions y := by kernel_rfl
theorem N_Program : (F_Program x_lengths x_functions x_steps).length < 1000 := by show 3 < 1000; decide
/-- read -/
theorem r_Program_lengths (T : Tx K mg) (h : Val ta σ H (.ref p)) (ho : H p = some (.ins (C_Program K) dx (F_Program x_lengths x_functions x_steps))) : Val (tFld K ta "lengths") σ H x_lengths := val_fld h ho T.c_Program T.n_Program_lengths L_Program_lengths
/-- read -/
theorem r_Program_functions (T : Tx K mg) (h : Val ta σ H (.ref p)) (ho : H p = some (.ins (C_Program K) dx (F_Program x_lengths x_functions x_steps))) : Val (tFld K ta "functions") σ H x_functions := val_fld h ho T.c_Program T.n_Program_functions L_Program_functions
/-- read -/
theorem r_Program_steps (T : Tx K mg) (h : Val ta σ H (.ref p)) (ho : H p = some (.ins (C_Program K) dx (F_Program x_lengths x_functions x_steps))) : Val (tFld K ta "steps") σ H x_steps := val_fld h ho T.c_Program T.n_Program_steps L_Program_steps
/-- store -/
theorem w_Program_lengths (T : Tx K mg) (hv : Val tv σ H y) (h : Val ta σ H (.ref p)) (ho : H p = some (.ins (C_Program K) dx (F_Program x_lengths x_functions x_steps))) (q : D.nx σ (upd H p (.ins (C_Program K) dx (F_Program y x_functions x_steps)))) : sFld K ta tv "lengths" D σ H :=
  st_fld hv h ho T.c_Program T.n_Program_lengths N_Program (by rw [P_Program_lengths]; exact q)
/-- store -/
theorem w_Program_functions (T : Tx K mg) (hv : Val tv σ H y) (h : Val ta σ H (.ref p)) (ho : H p = some (.ins (C_Program K) dx (F_Program x_lengths x_functions x_steps))) (q : D.nx σ (upd H p (.ins (C_Program K) dx (F_Program x_lengths y x_steps)))) : sFld K ta tv "functions" D σ H :=
  st_fld hv h ho T.c_Program T.n_Program_functions N_Program (by rw [P_Program_functions]; exact q)
/-- store -/
theorem w_Program_steps (T : Tx K mg) (hv : Val tv σ H y) (h : Val ta σ H (.ref p)) (ho : H p = some (.ins (C_Program K) dx (F_Program x_lengths x_functions x_steps))) (q : D.nx σ (upd H p (.ins (C_Program K) dx (F_Program x_lengths x_functions y)))) : sFld K ta tv "steps" D σ H :=
  st_fld hv h ho T.c_Program T.n_Program_steps N_Program (by rw [P_Program_steps]; exact q)
theorem I_Program_0 : putF "lengths" x_lengths ([] : List (Str × V)) = ([("lengths", x_lengths)] : List (Str × V)) := by kernel_rfl
theorem J_Program_0 : ([] : List (Str × V)).length < 1000 := by show 0 < 1000; decide
theorem I_Program_1 : putF "functions" x_functions ([("lengths", x_lengths)] : List (Str × V)) = ([("lengths", x_lengths), ("functions", x_functions)] : List (Str × V)) := by kernel_rfl
theorem J_Program_1 : ([("lengths", x_lengths)] : List (Str × V)).length < 1000 := by show 1 < 1000; decide
theorem I_Program_2 : putF "steps" x_steps ([("lengths", x_lengths), ("functions", x_functions)] : List (Str × V)) = ((F_Program x_lengths x_functions x_steps) : List (Str × V)) := by kernel_rfl
theorem J_Program_2 : ([("lengths", x_lengths), ("functions", x_functions)] : List (Str × V)).length < 1000 := by show 2 < 1000; decide
end
abbrev C_Boxes (K : PySem.W.Frag) : Addr := He.ga K "Boxes"
def F_Boxes (x_lanes x_boxes : V) : List (Str × V) := [("lanes", x_lanes), ("boxes", x_boxes)]
section
variable {x_lanes x_boxes y : V} {K : PySem.W.Frag} {mg : Str → Option Value} {H : Hp} {p dx : Addr} {σ : L2.St} {ta tv : TE} {D : Ends}
theorem L_Boxes_lanes : List.lookup ("lanes" : Str) (F_Boxes x_lanes x_boxes) = some x_lanes := by kernel_rfl
theorem P_Boxes_lanes : putF "lanes" y (F_Boxes x_lanes x_boxes) = F_Boxes y x_boxes := by kernel_rfl
theorem L_Boxes_boxes : List.lookup ("boxes" : Str) (F_Boxes x_lanes x_boxes) = some x_boxes := by kernel_rfl
theorem P_Boxes_boxes : putF "boxes" y (F_Boxes x_lanes x_boxes) = F_Boxes x_lanes y := by kernel_rfl
theorem N_Boxes : (F_Boxes x_lanes x_boxes).length < 1000 := by show 2 < 1000; decide
/-- read -/
theorem r_Boxes_lanes (T : Tx K mg) (h : Val ta σ H (.ref p)) (ho : H p = some (.ins (C_Boxes K) dx (F_Boxes x_lanes x_boxes))) : Val (tFld K ta "lanes") σ H x_lanes := val_fld h ho T.c_Boxes T.n_Boxes_lanes L_Boxes_lanes
/-- read -/
theorem r_Boxes_boxes (T : Tx K mg) (h : Val ta σ H (.ref p)) (ho : H p = some (.ins (C_Boxes K) dx (F_Boxes x_lanes x_boxes))) : Val (tFld K ta "boxes") σ H x_boxes := val_fld h ho T.c_Boxes T.n_Boxes_boxes L_Boxes_boxes
/-- store -/
theorem w_Boxes_lanes (T : Tx K mg) (hv : Val tv σ H y) (h : Val ta σ H (.ref p)) (ho : H p = some (.ins (C_Boxes K) dx (F_Boxes x_lanes x_boxes))) (q : D.nx σ (upd H p (.ins (C_Boxes K) dx (F_Boxes y x_boxes)))) : sFld K ta tv "lanes" D σ H :=
  st_fld hv h ho T.c_Boxes T.n_Boxes_lanes N_Boxes (by rw [P_Boxes_lanes]; exact q)
/-- store -/
theorem w_Boxes_boxes (T : Tx K mg) (hv : Val tv σ H y) (h : Val ta σ H (.ref p)) (ho : H p = some (.ins (C_Boxes K) dx (F_Boxes x_lanes x_boxes))) (q : D.nx σ (upd H p (.ins (C_Boxes K) dx (F_Boxes x_lanes y)))) : sFld K ta tv "boxes" D σ H :=
  st_fld hv h ho T.c_Boxes T.n_Boxes_boxes N_Boxes (by rw [P_Boxes_boxes]; exact q)
theorem I_Boxes_0 : putF "lanes" x_lanes ([] : List (Str × V)) = ([("lanes", x_lanes)] : List (Str × V)) := by kernel_rfl
theorem J_Boxes_0 : ([] : List (Str × V)).length < 1000 := by show 0 < 1000; decide
theorem I_Boxes_1 : putF "boxes" x_boxes ([("lanes", x_lanes)] : List (Str × V)) = ((F_Boxes x_lanes x_boxes) : List (Str × V)) := by kernel_rfl
theorem J_Boxes_1 : ([("lanes", x_lanes)] : List (Str × V)).length < 1000 := by show 1 < 1000; decide
end
abbrev C_Feed (K : PySem.W.Frag) : Addr := He.ga K "Feed"
def F_Feed (x_stock x_spent : V) : List (Str × V) := [("stock", x_stock), ("spent", x_spent)]
section
variable {x_stock x_spent y : V} {K : PySem.W.Frag} {mg : Str → Option Value} {H : Hp} {p dx : Addr} {σ : L2.St} {ta tv : TE} {D : Ends}
theorem L_Feed_stock : List.lookup ("stock" : Str) (F_Feed x_stock x_spent) = some x_stock := by kernel_rfl
theorem P_Feed_stock : putF "stock" y (F_Feed x_stock x_spent) = F_Feed y x_spent := by kernel_rfl
theorem L_Feed_spent : List.lookup ("spent" : Str) (F_Feed x_stock x_spent) = some x_spent := by kernel_rfl
theorem P_Feed_spent : putF "spent" y (F_Feed x_stock x_spent) = F_Feed x_stock y := by kernel_rfl
theorem N_Feed : (F_Feed x_stock x_spent).length < 1000 := by show 2 < 1000; decide
/-- read -/
theorem r_Feed_stock (T : Tx K mg) (h : Val ta σ H (.ref p)) (ho : H p = some (.ins (C_Feed K) dx (F_Feed x_stock x_spent))) : Val (tFld K ta "stock") σ H x_stock := val_fld h ho T.c_Feed T.n_Feed_stock L_Feed_stock
/-- read -/
theorem r_Feed_spent (T : Tx K mg) (h : Val ta σ H (.ref p)) (ho : H p = some (.ins (C_Feed K) dx (F_Feed x_stock x_spent))) : Val (tFld K ta "spent") σ H x_spent := val_fld h ho T.c_Feed T.n_Feed_spent L_Feed_spent
/-- store -/
theorem w_Feed_stock (T : Tx K mg) (hv : Val tv σ H y) (h : Val ta σ H (.ref p)) (ho : H p = some (.ins (C_Feed K) dx (F_Feed x_stock x_spent))) (q : D.nx σ (upd H p (.ins (C_Feed K) dx (F_Feed y x_spent)))) : sFld K ta tv "stock" D σ H :=
  st_fld hv h ho T.c_Feed T.n_Feed_stock N_Feed (by rw [P_Feed_stock]; exact q)
/-- store -/
theorem w_Feed_spent (T : Tx K mg) (hv : Val tv σ H y) (h : Val ta σ H (.ref p)) (ho : H p = some (.ins (C_Feed K) dx (F_Feed x_stock x_spent))) (q : D.nx σ (upd H p (.ins (C_Feed K) dx (F_Feed x_stock y)))) : sFld K ta tv "spent" D σ H :=
  st_fld hv h ho T.c_Feed T.n_Feed_spent N_Feed (by rw [P_Feed_spent]; exact q)
theorem I_Feed_0 : putF "stock" x_stock ([] : List (Str × V)) = ([("stock", x_stock)] : List (Str × V)) := by kernel_rfl
theorem J_Feed_0 : ([] : List (Str × V)).length < 1000 := by show 0 < 1000; decide
theorem I_Feed_1 : putF "spent" x_spent ([("stock", x_stock)] : List (Str × V)) = ((F_Feed x_stock x_spent) : List (Str × V)) := by kernel_rfl
theorem J_Feed_1 : ([("stock", x_stock)] : List (Str × V)).length < 1000 := by show 1 < 1000; decide
end
abbrev C_Strip (K : PySem.W.Frag) : Addr := He.ga K "Strip"
def F_Strip (x_many x_group x_base x_began x_width x_faults x_cut : V) : List (Str × V) := [("many", x_many), ("group", x_group), ("base", x_base), ("began", x_began), ("width", x_width), ("faults", x_faults), ("cut", x_cut)]
section
variable {x_many x_group x_base x_began x_width x_faults x_cut y : V} {K : PySem.W.Frag} {mg : Str → Option Value} {H : Hp} {p dx : Addr} {σ : L2.St} {ta tv : TE} {D : Ends}
theorem L_Strip_many : List.lookup ("many" : Str) (F_Strip x_many x_group x_base x_began x_width x_faults x_cut) = some x_many := by kernel_rfl
theorem P_Strip_many : putF "many" y (F_Strip x_many x_group x_base x_began x_width x_faults x_cut) = F_Strip y x_group x_base x_began x_width x_faults x_cut := by kernel_rfl
theorem L_Strip_group : List.lookup ("group" : Str) (F_Strip x_many x_group x_base x_began x_width x_faults x_cut) = some x_group := by kernel_rfl
theorem P_Strip_group : putF "group" y (F_Strip x_many x_group x_base x_began x_width x_faults x_cut) = F_Strip x_many y x_base x_began x_width x_faults x_cut := by kernel_rfl
theorem L_Strip_base : List.lookup ("base" : Str) (F_Strip x_many x_group x_base x_began x_width x_faults x_cut) = some x_base := by kernel_rfl
theorem P_Strip_base : putF "base" y (F_Strip x_many x_group x_base x_began x_width x_faults x_cut) = F_Strip x_many x_group y x_began x_width x_faults x_cut := by kernel_rfl
theorem L_Strip_began : List.lookup ("began" : Str) (F_Strip x_many x_group x_base x_began x_width x_faults x_cut) = some x_began := by kernel_rfl
theorem P_Strip_began : putF "began" y (F_Strip x_many x_group x_base x_began x_width x_faults x_cut) = F_Strip x_many x_group x_base y x_width x_faults x_cut := by kernel_rfl
theorem L_Strip_width : List.lookup ("width" : Str) (F_Strip x_many x_group x_base x_began x_width x_faults x_cut) = some x_width := by kernel_rfl
theorem P_Strip_width : putF "width" y (F_Strip x_many x_group x_base x_began x_width x_faults x_cut) = F_Strip x_many x_group x_base x_began y x_faults x_cut := by kernel_rfl
theorem L_Strip_faults : List.lookup ("faults" : Str) (F_Strip x_many x_group x_base x_began x_width x_faults x_cut) = some x_faults := by kernel_rfl
theorem P_Strip_faults : putF "faults" y (F_Strip x_many x_group x_base x_began x_width x_faults x_cut) = F_Strip x_many x_group x_base x_began x_width y x_cut := by kernel_rfl
theorem L_Strip_cut : List.lookup ("cut" : Str) (F_Strip x_many x_group x_base x_began x_width x_faults x_cut) = some x_cut := by kernel_rfl
theorem P_Strip_cut : putF "cut" y (F_Strip x_many x_group x_base x_began x_width x_faults x_cut) = F_Strip x_many x_group x_base x_began x_width x_faults y := by kernel_rfl
theorem N_Strip : (F_Strip x_many x_group x_base x_began x_width x_faults x_cut).length < 1000 := by show 7 < 1000; decide
/-- read -/
theorem r_Strip_many (T : Tx K mg) (h : Val ta σ H (.ref p)) (ho : H p = some (.ins (C_Strip K) dx (F_Strip x_many x_group x_base x_began x_width x_faults x_cut))) : Val (tFld K ta "many") σ H x_many := val_fld h ho T.c_Strip T.n_Strip_many L_Strip_many
/-- read -/
theorem r_Strip_group (T : Tx K mg) (h : Val ta σ H (.ref p)) (ho : H p = some (.ins (C_Strip K) dx (F_Strip x_many x_group x_base x_began x_width x_faults x_cut))) : Val (tFld K ta "group") σ H x_group := val_fld h ho T.c_Strip T.n_Strip_group L_Strip_group
/-- read -/
theorem r_Strip_base (T : Tx K mg) (h : Val ta σ H (.ref p)) (ho : H p = some (.ins (C_Strip K) dx (F_Strip x_many x_group x_base x_began x_width x_faults x_cut))) : Val (tFld K ta "base") σ H x_base := val_fld h ho T.c_Strip T.n_Strip_base L_Strip_base
/-- read -/
theorem r_Strip_began (T : Tx K mg) (h : Val ta σ H (.ref p)) (ho : H p = some (.ins (C_Strip K) dx (F_Strip x_many x_group x_base x_began x_width x_faults x_cut))) : Val (tFld K ta "began") σ H x_began := val_fld h ho T.c_Strip T.n_Strip_began L_Strip_began
/-- read -/
theorem r_Strip_width (T : Tx K mg) (h : Val ta σ H (.ref p)) (ho : H p = some (.ins (C_Strip K) dx (F_Strip x_many x_group x_base x_began x_width x_faults x_cut))) : Val (tFld K ta "width") σ H x_width := val_fld h ho T.c_Strip T.n_Strip_width L_Strip_width
/-- read -/
theorem r_Strip_faults (T : Tx K mg) (h : Val ta σ H (.ref p)) (ho : H p = some (.ins (C_Strip K) dx (F_Strip x_many x_group x_base x_began x_width x_faults x_cut))) : Val (tFld K ta "faults") σ H x_faults := val_fld h ho T.c_Strip T.n_Strip_faults L_Strip_faults
/-- read -/
theorem r_Strip_cut (T : Tx K mg) (h : Val ta σ H (.ref p)) (ho : H p = some (.ins (C_Strip K) dx (F_Strip x_many x_group x_base x_began x_width x_faults x_cut))) : Val (tFld K ta "cut") σ H x_cut := val_fld h ho T.c_Strip T.n_Strip_cut L_Strip_cut
/-- store -/
theorem w_Strip_many (T : Tx K mg) (hv : Val tv σ H y) (h : Val ta σ H (.ref p)) (ho : H p = some (.ins (C_Strip K) dx (F_Strip x_many x_group x_base x_began x_width x_faults x_cut))) (q : D.nx σ (upd H p (.ins (C_Strip K) dx (F_Strip y x_group x_base x_began x_width x_faults x_cut)))) : sFld K ta tv "many" D σ H :=
  st_fld hv h ho T.c_Strip T.n_Strip_many N_Strip (by rw [P_Strip_many]; exact q)
/-- store -/
theorem w_Strip_group (T : Tx K mg) (hv : Val tv σ H y) (h : Val ta σ H (.ref p)) (ho : H p = some (.ins (C_Strip K) dx (F_Strip x_many x_group x_base x_began x_width x_faults x_cut))) (q : D.nx σ (upd H p (.ins (C_Strip K) dx (F_Strip x_many y x_base x_began x_width x_faults x_cut)))) : sFld K ta tv "group" D σ H :=
  st_fld hv h ho T.c_Strip T.n_Strip_group N_Strip (by rw [P_Strip_group]; exact q)
/-- store -/
theorem w_Strip_base (T : Tx K mg) (hv : Val tv σ H y) (h : Val ta σ H (.ref p)) (ho : H p = some (.ins (C_Strip K) dx (F_Strip x_many x_group x_base x_began x_width x_faults x_cut))) (q : D.nx σ (upd H p (.ins (C_Strip K) dx (F_Strip x_many x_group y x_began x_width x_faults x_cut)))) : sFld K ta tv "base" D σ H :=
  st_fld hv h ho T.c_Strip T.n_Strip_base N_Strip (by rw [P_Strip_base]; exact q)
/-- store -/
theorem w_Strip_began (T : Tx K mg) (hv : Val tv σ H y) (h : Val ta σ H (.ref p)) (ho : H p = some (.ins (C_Strip K) dx (F_Strip x_many x_group x_base x_began x_width x_faults x_cut))) (q : D.nx σ (upd H p (.ins (C_Strip K) dx (F_Strip x_many x_group x_base y x_width x_faults x_cut)))) : sFld K ta tv "began" D σ H :=
  st_fld hv h ho T.c_Strip T.n_Strip_began N_Strip (by rw [P_Strip_began]; exact q)
/-- store -/
theorem w_Strip_width (T : Tx K mg) (hv : Val tv σ H y) (h : Val ta σ H (.ref p)) (ho : H p = some (.ins (C_Strip K) dx (F_Strip x_many x_group x_base x_began x_width x_faults x_cut))) (q : D.nx σ (upd H p (.ins (C_Strip K) dx (F_Strip x_many x_group x_base x_began y x_faults x_cut)))) : sFld K ta tv "width" D σ H :=
  st_fld hv h ho T.c_Strip T.n_Strip_width N_Strip (by rw [P_Strip_width]; exact q)
/-- store -/
theorem w_Strip_faults (T : Tx K mg) (hv : Val tv σ H y) (h : Val ta σ H (.ref p)) (ho : H p = some (.ins (C_Strip K) dx (F_Strip x_many x_group x_base x_began x_width x_faults x_cut))) (q : D.nx σ (upd H p (.ins (C_Strip K) dx (F_Strip x_many x_group x_base x_began x_width y x_cut)))) : sFld K ta tv "faults" D σ H :=
  st_fld hv h ho T.c_Strip T.n_Strip_faults N_Strip (by rw [P_Strip_faults]; exact q)
/-- store -/
theorem w_Strip_cut (T : Tx K mg) (hv : Val tv σ H y) (h : Val ta σ H (.ref p)) (ho : H p = some (.ins (C_Strip K) dx (F_Strip x_many x_group x_base x_began x_width x_faults x_cut))) (q : D.nx σ (upd H p (.ins (C_Strip K) dx (F_Strip x_many x_group x_base x_began x_width x_faults y)))) : sFld K ta tv "cut" D σ H :=
  st_fld hv h ho T.c_Strip T.n_Strip_cut N_Strip (by rw [P_Strip_cut]; exact q)
theorem I_Strip_0 : putF "many" x_many ([] : List (Str × V)) = ([("many", x_many)] : List (Str × V)) := by kernel_rfl
theorem J_Strip_0 : ([] : List (Str × V)).length < 1000 := by show 0 < 1000; decide
theorem I_Strip_1 : putF "group" x_group ([("many", x_many)] : List (Str × V)) = ([("many", x_many), ("group", x_group)] : List (Str × V)) := by kernel_rfl
theorem J_Strip_1 : ([("many", x_many)] : List (Str × V)).length < 1000 := by show 1 < 1000; decide
theorem I_Strip_2 : putF "base" x_base ([("many", x_many), ("group", x_group)] : List (Str × V)) = ([("many", x_many), ("group", x_group), ("base", x_base)] : List (Str × V)) := by kernel_rfl
theorem J_Strip_2 : ([("many", x_many), ("group", x_group)] : List (Str × V)).length < 1000 := by show 2 < 1000; decide
theorem I_Strip_3 : putF "began" x_began ([("many", x_many), ("group", x_group), ("base", x_base)] : List (Str × V)) = ([("many", x_many), ("group", x_group), ("base", x_base), ("began", x_began)] : List (Str × V)) := by kernel_rfl
theorem J_Strip_3 : ([("many", x_many), ("group", x_group), ("base", x_base)] : List (Str × V)).length < 1000 := by show 3 < 1000; decide
theorem I_Strip_4 : putF "width" x_width ([("many", x_many), ("group", x_group), ("base", x_base), ("began", x_began)] : List (Str × V)) = ([("many", x_many), ("group", x_group), ("base", x_base), ("began", x_began), ("width", x_width)] : List (Str × V)) := by kernel_rfl
theorem J_Strip_4 : ([("many", x_many), ("group", x_group), ("base", x_base), ("began", x_began)] : List (Str × V)).length < 1000 := by show 4 < 1000; decide
theorem I_Strip_5 : putF "faults" x_faults ([("many", x_many), ("group", x_group), ("base", x_base), ("began", x_began), ("width", x_width)] : List (Str × V)) = ([("many", x_many), ("group", x_group), ("base", x_base), ("began", x_began), ("width", x_width), ("faults", x_faults)] : List (Str × V)) := by kernel_rfl
theorem J_Strip_5 : ([("many", x_many), ("group", x_group), ("base", x_base), ("began", x_began), ("width", x_width)] : List (Str × V)).length < 1000 := by show 5 < 1000; decide
theorem I_Strip_6 : putF "cut" x_cut ([("many", x_many), ("group", x_group), ("base", x_base), ("began", x_began), ("width", x_width), ("faults", x_faults)] : List (Str × V)) = ((F_Strip x_many x_group x_base x_began x_width x_faults x_cut) : List (Str × V)) := by kernel_rfl
theorem J_Strip_6 : ([("many", x_many), ("group", x_group), ("base", x_base), ("began", x_began), ("width", x_width), ("faults", x_faults)] : List (Str × V)).length < 1000 := by show 6 < 1000; decide
end
abbrev C_Bench (K : PySem.W.Frag) : Addr := He.ga K "Bench"
def F_Bench (x_lengths x_cells x_lanes x_boxes x_masks x_slots x_dust x_picks x_place x_touches x_now x_carried x_raised : V) : List (Str × V) := [("lengths", x_lengths), ("cells", x_cells), ("lanes", x_lanes), ("boxes", x_boxes), ("masks", x_masks), ("slots", x_slots), ("dust", x_dust), ("picks", x_picks), ("place", x_place), ("touches", x_touches), ("now", x_now), ("carried", x_carried), ("raised", x_raised)]
section
variable {x_lengths x_cells x_lanes x_boxes x_masks x_slots x_dust x_picks x_place x_touches x_now x_carried x_raised y : V} {K : PySem.W.Frag} {mg : Str → Option Value} {H : Hp} {p dx : Addr} {σ : L2.St} {ta tv : TE} {D : Ends}
theorem L_Bench_lengths : List.lookup ("lengths" : Str) (F_Bench x_lengths x_cells x_lanes x_boxes x_masks x_slots x_dust x_picks x_place x_touches x_now x_carried x_raised) = some x_lengths := by kernel_rfl
theorem P_Bench_lengths : putF "lengths" y (F_Bench x_lengths x_cells x_lanes x_boxes x_masks x_slots x_dust x_picks x_place x_touches x_now x_carried x_raised) = F_Bench y x_cells x_lanes x_boxes x_masks x_slots x_dust x_picks x_place x_touches x_now x_carried x_raised := by kernel_rfl
theorem L_Bench_cells : List.lookup ("cells" : Str) (F_Bench x_lengths x_cells x_lanes x_boxes x_masks x_slots x_dust x_picks x_place x_touches x_now x_carried x_raised) = some x_cells := by kernel_rfl
theorem P_Bench_cells : putF "cells" y (F_Bench x_lengths x_cells x_lanes x_boxes x_masks x_slots x_dust x_picks x_place x_touches x_now x_carried x_raised) = F_Bench x_lengths y x_lanes x_boxes x_masks x_slots x_dust x_picks x_place x_touches x_now x_carried x_raised := by kernel_rfl
theorem L_Bench_lanes : List.lookup ("lanes" : Str) (F_Bench x_lengths x_cells x_lanes x_boxes x_masks x_slots x_dust x_picks x_place x_touches x_now x_carried x_raised) = some x_lanes := by kernel_rfl
theorem P_Bench_lanes : putF "lanes" y (F_Bench x_lengths x_cells x_lanes x_boxes x_masks x_slots x_dust x_picks x_place x_touches x_now x_carried x_raised) = F_Bench x_lengths x_cells y x_boxes x_masks x_slots x_dust x_picks x_place x_touches x_now x_carried x_raised := by kernel_rfl
theorem L_Bench_boxes : List.lookup ("boxes" : Str) (F_Bench x_lengths x_cells x_lanes x_boxes x_masks x_slots x_dust x_picks x_place x_touches x_now x_carried x_raised) = some x_boxes := by kernel_rfl
theorem P_Bench_boxes : putF "boxes" y (F_Bench x_lengths x_cells x_lanes x_boxes x_masks x_slots x_dust x_picks x_place x_touches x_now x_carried x_raised) = F_Bench x_lengths x_cells x_lanes y x_masks x_slots x_dust x_picks x_place x_touches x_now x_carried x_raised := by kernel_rfl
theorem L_Bench_masks : List.lookup ("masks" : Str) (F_Bench x_lengths x_cells x_lanes x_boxes x_masks x_slots x_dust x_picks x_place x_touches x_now x_carried x_raised) = some x_masks := by kernel_rfl
theorem P_Bench_masks : putF "masks" y (F_Bench x_lengths x_cells x_lanes x_boxes x_masks x_slots x_dust x_picks x_place x_touches x_now x_carried x_raised) = F_Bench x_lengths x_cells x_lanes x_boxes y x_slots x_dust x_picks x_place x_touches x_now x_carried x_raised := by kernel_rfl
theorem L_Bench_slots : List.lookup ("slots" : Str) (F_Bench x_lengths x_cells x_lanes x_boxes x_masks x_slots x_dust x_picks x_place x_touches x_now x_carried x_raised) = some x_slots := by kernel_rfl
theorem P_Bench_slots : putF "slots" y (F_Bench x_lengths x_cells x_lanes x_boxes x_masks x_slots x_dust x_picks x_place x_touches x_now x_carried x_raised) = F_Bench x_lengths x_cells x_lanes x_boxes x_masks y x_dust x_picks x_place x_touches x_now x_carried x_raised := by kernel_rfl
theorem L_Bench_dust : List.lookup ("dust" : Str) (F_Bench x_lengths x_cells x_lanes x_boxes x_masks x_slots x_dust x_picks x_place x_touches x_now x_carried x_raised) = some x_dust := by kernel_rfl
theorem P_Bench_dust : putF "dust" y (F_Bench x_lengths x_cells x_lanes x_boxes x_masks x_slots x_dust x_picks x_place x_touches x_now x_carried x_raised) = F_Bench x_lengths x_cells x_lanes x_boxes x_masks x_slots y x_picks x_place x_touches x_now x_carried x_raised := by kernel_rfl
theorem L_Bench_picks : List.lookup ("picks" : Str) (F_Bench x_lengths x_cells x_lanes x_boxes x_masks x_slots x_dust x_picks x_place x_touches x_now x_carried x_raised) = some x_picks := by kernel_rfl
theorem P_Bench_picks : putF "picks" y (F_Bench x_lengths x_cells x_lanes x_boxes x_masks x_slots x_dust x_picks x_place x_touches x_now x_carried x_raised) = F_Bench x_lengths x_cells x_lanes x_boxes x_masks x_slots x_dust y x_place x_touches x_now x_carried x_raised := by kernel_rfl
theorem L_Bench_place : List.lookup ("place" : Str) (F_Bench x_lengths x_cells x_lanes x_boxes x_masks x_slots x_dust x_picks x_place x_touches x_now x_carried x_raised) = some x_place := by kernel_rfl
theorem P_Bench_place : putF "place" y (F_Bench x_lengths x_cells x_lanes x_boxes x_masks x_slots x_dust x_picks x_place x_touches x_now x_carried x_raised) = F_Bench x_lengths x_cells x_lanes x_boxes x_masks x_slots x_dust x_picks y x_touches x_now x_carried x_raised := by kernel_rfl
theorem L_Bench_touches : List.lookup ("touches" : Str) (F_Bench x_lengths x_cells x_lanes x_boxes x_masks x_slots x_dust x_picks x_place x_touches x_now x_carried x_raised) = some x_touches := by kernel_rfl
theorem P_Bench_touches : putF "touches" y (F_Bench x_lengths x_cells x_lanes x_boxes x_masks x_slots x_dust x_picks x_place x_touches x_now x_carried x_raised) = F_Bench x_lengths x_cells x_lanes x_boxes x_masks x_slots x_dust x_picks x_place y x_now x_carried x_raised := by kernel_rfl
theorem L_Bench_now : List.lookup ("now" : Str) (F_Bench x_lengths x_cells x_lanes x_boxes x_masks x_slots x_dust x_picks x_place x_touches x_now x_carried x_raised) = some x_now := by kernel_rfl
theorem P_Bench_now : putF "now" y (F_Bench x_lengths x_cells x_lanes x_boxes x_masks x_slots x_dust x_picks x_place x_touches x_now x_carried x_raised) = F_Bench x_lengths x_cells x_lanes x_boxes x_masks x_slots x_dust x_picks x_place x_touches y x_carried x_raised := by kernel_rfl
theorem L_Bench_carried : List.lookup ("carried" : Str) (F_Bench x_lengths x_cells x_lanes x_boxes x_masks x_slots x_dust x_picks x_place x_touches x_now x_carried x_raised) = some x_carried := by kernel_rfl
theorem P_Bench_carried : putF "carried" y (F_Bench x_lengths x_cells x_lanes x_boxes x_masks x_slots x_dust x_picks x_place x_touches x_now x_carried x_raised) = F_Bench x_lengths x_cells x_lanes x_boxes x_masks x_slots x_dust x_picks x_place x_touches x_now y x_raised := by kernel_rfl
theorem L_Bench_raised : List.lookup ("raised" : Str) (F_Bench x_lengths x_cells x_lanes x_boxes x_masks x_slots x_dust x_picks x_place x_touches x_now x_carried x_raised) = some x_raised := by kernel_rfl
theorem P_Bench_raised : putF "raised" y (F_Bench x_lengths x_cells x_lanes x_boxes x_masks x_slots x_dust x_picks x_place x_touches x_now x_carried x_raised) = F_Bench x_lengths x_cells x_lanes x_boxes x_masks x_slots x_dust x_picks x_place x_touches x_now x_carried y := by kernel_rfl
theorem N_Bench : (F_Bench x_lengths x_cells x_lanes x_boxes x_masks x_slots x_dust x_picks x_place x_touches x_now x_carried x_raised).length < 1000 := by show 13 < 1000; decide
/-- read -/
theorem r_Bench_lengths (T : Tx K mg) (h : Val ta σ H (.ref p)) (ho : H p = some (.ins (C_Bench K) dx (F_Bench x_lengths x_cells x_lanes x_boxes x_masks x_slots x_dust x_picks x_place x_touches x_now x_carried x_raised))) : Val (tFld K ta "lengths") σ H x_lengths := val_fld h ho T.c_Bench T.n_Bench_lengths L_Bench_lengths
/-- read -/
theorem r_Bench_cells (T : Tx K mg) (h : Val ta σ H (.ref p)) (ho : H p = some (.ins (C_Bench K) dx (F_Bench x_lengths x_cells x_lanes x_boxes x_masks x_slots x_dust x_picks x_place x_touches x_now x_carried x_raised))) : Val (tFld K ta "cells") σ H x_cells := val_fld h ho T.c_Bench T.n_Bench_cells L_Bench_cells
/-- read -/
theorem r_Bench_lanes (T : Tx K mg) (h : Val ta σ H (.ref p)) (ho : H p = some (.ins (C_Bench K) dx (F_Bench x_lengths x_cells x_lanes x_boxes x_masks x_slots x_dust x_picks x_place x_touches x_now x_carried x_raised))) : Val (tFld K ta "lanes") σ H x_lanes := val_fld h ho T.c_Bench T.n_Bench_lanes L_Bench_lanes
/-- read -/
theorem r_Bench_boxes (T : Tx K mg) (h : Val ta σ H (.ref p)) (ho : H p = some (.ins (C_Bench K) dx (F_Bench x_lengths x_cells x_lanes x_boxes x_masks x_slots x_dust x_picks x_place x_touches x_now x_carried x_raised))) : Val (tFld K ta "boxes") σ H x_boxes := val_fld h ho T.c_Bench T.n_Bench_boxes L_Bench_boxes
/-- read -/
theorem r_Bench_masks (T : Tx K mg) (h : Val ta σ H (.ref p)) (ho : H p = some (.ins (C_Bench K) dx (F_Bench x_lengths x_cells x_lanes x_boxes x_masks x_slots x_dust x_picks x_place x_touches x_now x_carried x_raised))) : Val (tFld K ta "masks") σ H x_masks := val_fld h ho T.c_Bench T.n_Bench_masks L_Bench_masks
/-- read -/
theorem r_Bench_slots (T : Tx K mg) (h : Val ta σ H (.ref p)) (ho : H p = some (.ins (C_Bench K) dx (F_Bench x_lengths x_cells x_lanes x_boxes x_masks x_slots x_dust x_picks x_place x_touches x_now x_carried x_raised))) : Val (tFld K ta "slots") σ H x_slots := val_fld h ho T.c_Bench T.n_Bench_slots L_Bench_slots
/-- read -/
theorem r_Bench_dust (T : Tx K mg) (h : Val ta σ H (.ref p)) (ho : H p = some (.ins (C_Bench K) dx (F_Bench x_lengths x_cells x_lanes x_boxes x_masks x_slots x_dust x_picks x_place x_touches x_now x_carried x_raised))) : Val (tFld K ta "dust") σ H x_dust := val_fld h ho T.c_Bench T.n_Bench_dust L_Bench_dust
/-- read -/
theorem r_Bench_picks (T : Tx K mg) (h : Val ta σ H (.ref p)) (ho : H p = some (.ins (C_Bench K) dx (F_Bench x_lengths x_cells x_lanes x_boxes x_masks x_slots x_dust x_picks x_place x_touches x_now x_carried x_raised))) : Val (tFld K ta "picks") σ H x_picks := val_fld h ho T.c_Bench T.n_Bench_picks L_Bench_picks
/-- read -/
theorem r_Bench_place (T : Tx K mg) (h : Val ta σ H (.ref p)) (ho : H p = some (.ins (C_Bench K) dx (F_Bench x_lengths x_cells x_lanes x_boxes x_masks x_slots x_dust x_picks x_place x_touches x_now x_carried x_raised))) : Val (tFld K ta "place") σ H x_place := val_fld h ho T.c_Bench T.n_Bench_place L_Bench_place
/-- read -/
theorem r_Bench_touches (T : Tx K mg) (h : Val ta σ H (.ref p)) (ho : H p = some (.ins (C_Bench K) dx (F_Bench x_lengths x_cells x_lanes x_boxes x_masks x_slots x_dust x_picks x_place x_touches x_now x_carried x_raised))) : Val (tFld K ta "touches") σ H x_touches := val_fld h ho T.c_Bench T.n_Bench_touches L_Bench_touches
/-- read -/
theorem r_Bench_now (T : Tx K mg) (h : Val ta σ H (.ref p)) (ho : H p = some (.ins (C_Bench K) dx (F_Bench x_lengths x_cells x_lanes x_boxes x_masks x_slots x_dust x_picks x_place x_touches x_now x_carried x_raised))) : Val (tFld K ta "now") σ H x_now := val_fld h ho T.c_Bench T.n_Bench_now L_Bench_now
/-- read -/
theorem r_Bench_carried (T : Tx K mg) (h : Val ta σ H (.ref p)) (ho : H p = some (.ins (C_Bench K) dx (F_Bench x_lengths x_cells x_lanes x_boxes x_masks x_slots x_dust x_picks x_place x_touches x_now x_carried x_raised))) : Val (tFld K ta "carried") σ H x_carried := val_fld h ho T.c_Bench T.n_Bench_carried L_Bench_carried
/-- read -/
theorem r_Bench_raised (T : Tx K mg) (h : Val ta σ H (.ref p)) (ho : H p = some (.ins (C_Bench K) dx (F_Bench x_lengths x_cells x_lanes x_boxes x_masks x_slots x_dust x_picks x_place x_touches x_now x_carried x_raised))) : Val (tFld K ta "raised") σ H x_raised := val_fld h ho T.c_Bench T.n_Bench_raised L_Bench_raised
/-- store -/
theorem w_Bench_lengths (T : Tx K mg) (hv : Val tv σ H y) (h : Val ta σ H (.ref p)) (ho : H p = some (.ins (C_Bench K) dx (F_Bench x_lengths x_cells x_lanes x_boxes x_masks x_slots x_dust x_picks x_place x_touches x_now x_carried x_raised))) (q : D.nx σ (upd H p (.ins (C_Bench K) dx (F_Bench y x_cells x_lanes x_boxes x_masks x_slots x_dust x_picks x_place x_touches x_now x_carried x_raised)))) : sFld K ta tv "lengths" D σ H :=
  st_fld hv h ho T.c_Bench T.n_Bench_lengths N_Bench (by rw [P_Bench_lengths]; exact q)
/-- store -/
theorem w_Bench_cells (T : Tx K mg) (hv : Val tv σ H y) (h : Val ta σ H (.ref p)) (ho : H p = some (.ins (C_Bench K) dx (F_Bench x_lengths x_cells x_lanes x_boxes x_masks x_slots x_dust x_picks x_place x_touches x_now x_carried x_raised))) (q : D.nx σ (upd H p (.ins (C_Bench K) dx (F_Bench x_lengths y x_lanes x_boxes x_masks x_slots x_dust x_picks x_place x_touches x_now x_carried x_raised)))) : sFld K ta tv "cells" D σ H :=
  st_fld hv h ho T.c_Bench T.n_Bench_cells N_Bench (by rw [P_Bench_cells]; exact q)
/-- store -/
theorem w_Bench_lanes (T : Tx K mg) (hv : Val tv σ H y) (h : Val ta σ H (.ref p)) (ho : H p = some (.ins (C_Bench K) dx (F_Bench x_lengths x_cells x_lanes x_boxes x_masks x_slots x_dust x_picks x_place x_touches x_now x_carried x_raised))) (q : D.nx σ (upd H p (.ins (C_Bench K) dx (F_Bench x_lengths x_cells y x_boxes x_masks x_slots x_dust x_picks x_place x_touches x_now x_carried x_raised)))) : sFld K ta tv "lanes" D σ H :=
  st_fld hv h ho T.c_Bench T.n_Bench_lanes N_Bench (by rw [P_Bench_lanes]; exact q)
/-- store -/
theorem w_Bench_boxes (T : Tx K mg) (hv : Val tv σ H y) (h : Val ta σ H (.ref p)) (ho : H p = some (.ins (C_Bench K) dx (F_Bench x_lengths x_cells x_lanes x_boxes x_masks x_slots x_dust x_picks x_place x_touches x_now x_carried x_raised))) (q : D.nx σ (upd H p (.ins (C_Bench K) dx (F_Bench x_lengths x_cells x_lanes y x_masks x_slots x_dust x_picks x_place x_touches x_now x_carried x_raised)))) : sFld K ta tv "boxes" D σ H :=
  st_fld hv h ho T.c_Bench T.n_Bench_boxes N_Bench (by rw [P_Bench_boxes]; exact q)
/-- store -/
theorem w_Bench_masks (T : Tx K mg) (hv : Val tv σ H y) (h : Val ta σ H (.ref p)) (ho : H p = some (.ins (C_Bench K) dx (F_Bench x_lengths x_cells x_lanes x_boxes x_masks x_slots x_dust x_picks x_place x_touches x_now x_carried x_raised))) (q : D.nx σ (upd H p (.ins (C_Bench K) dx (F_Bench x_lengths x_cells x_lanes x_boxes y x_slots x_dust x_picks x_place x_touches x_now x_carried x_raised)))) : sFld K ta tv "masks" D σ H :=
  st_fld hv h ho T.c_Bench T.n_Bench_masks N_Bench (by rw [P_Bench_masks]; exact q)
/-- store -/
theorem w_Bench_slots (T : Tx K mg) (hv : Val tv σ H y) (h : Val ta σ H (.ref p)) (ho : H p = some (.ins (C_Bench K) dx (F_Bench x_lengths x_cells x_lanes x_boxes x_masks x_slots x_dust x_picks x_place x_touches x_now x_carried x_raised))) (q : D.nx σ (upd H p (.ins (C_Bench K) dx (F_Bench x_lengths x_cells x_lanes x_boxes x_masks y x_dust x_picks x_place x_touches x_now x_carried x_raised)))) : sFld K ta tv "slots" D σ H :=
  st_fld hv h ho T.c_Bench T.n_Bench_slots N_Bench (by rw [P_Bench_slots]; exact q)
/-- store -/
theorem w_Bench_dust (T : Tx K mg) (hv : Val tv σ H y) (h : Val ta σ H (.ref p)) (ho : H p = some (.ins (C_Bench K) dx (F_Bench x_lengths x_cells x_lanes x_boxes x_masks x_slots x_dust x_picks x_place x_touches x_now x_carried x_raised))) (q : D.nx σ (upd H p (.ins (C_Bench K) dx (F_Bench x_lengths x_cells x_lanes x_boxes x_masks x_slots y x_picks x_place x_touches x_now x_carried x_raised)))) : sFld K ta tv "dust" D σ H :=
  st_fld hv h ho T.c_Bench T.n_Bench_dust N_Bench (by rw [P_Bench_dust]; exact q)
/-- store -/
theorem w_Bench_picks (T : Tx K mg) (hv : Val tv σ H y) (h : Val ta σ H (.ref p)) (ho : H p = some (.ins (C_Bench K) dx (F_Bench x_lengths x_cells x_lanes x_boxes x_masks x_slots x_dust x_picks x_place x_touches x_now x_carried x_raised))) (q : D.nx σ (upd H p (.ins (C_Bench K) dx (F_Bench x_lengths x_cells x_lanes x_boxes x_masks x_slots x_dust y x_place x_touches x_now x_carried x_raised)))) : sFld K ta tv "picks" D σ H :=
  st_fld hv h ho T.c_Bench T.n_Bench_picks N_Bench (by rw [P_Bench_picks]; exact q)
/-- store -/
theorem w_Bench_place (T : Tx K mg) (hv : Val tv σ H y) (h : Val ta σ H (.ref p)) (ho : H p = some (.ins (C_Bench K) dx (F_Bench x_lengths x_cells x_lanes x_boxes x_masks x_slots x_dust x_picks x_place x_touches x_now x_carried x_raised))) (q : D.nx σ (upd H p (.ins (C_Bench K) dx (F_Bench x_lengths x_cells x_lanes x_boxes x_masks x_slots x_dust x_picks y x_touches x_now x_carried x_raised)))) : sFld K ta tv "place" D σ H :=
  st_fld hv h ho T.c_Bench T.n_Bench_place N_Bench (by rw [P_Bench_place]; exact q)
/-- store -/
theorem w_Bench_touches (T : Tx K mg) (hv : Val tv σ H y) (h : Val ta σ H (.ref p)) (ho : H p = some (.ins (C_Bench K) dx (F_Bench x_lengths x_cells x_lanes x_boxes x_masks x_slots x_dust x_picks x_place x_touches x_now x_carried x_raised))) (q : D.nx σ (upd H p (.ins (C_Bench K) dx (F_Bench x_lengths x_cells x_lanes x_boxes x_masks x_slots x_dust x_picks x_place y x_now x_carried x_raised)))) : sFld K ta tv "touches" D σ H :=
  st_fld hv h ho T.c_Bench T.n_Bench_touches N_Bench (by rw [P_Bench_touches]; exact q)
/-- store -/
theorem w_Bench_now (T : Tx K mg) (hv : Val tv σ H y) (h : Val ta σ H (.ref p)) (ho : H p = some (.ins (C_Bench K) dx (F_Bench x_lengths x_cells x_lanes x_boxes x_masks x_slots x_dust x_picks x_place x_touches x_now x_carried x_raised))) (q : D.nx σ (upd H p (.ins (C_Bench K) dx (F_Bench x_lengths x_cells x_lanes x_boxes x_masks x_slots x_dust x_picks x_place x_touches y x_carried x_raised)))) : sFld K ta tv "now" D σ H :=
  st_fld hv h ho T.c_Bench T.n_Bench_now N_Bench (by rw [P_Bench_now]; exact q)
/-- store -/
theorem w_Bench_carried (T : Tx K mg) (hv : Val tv σ H y) (h : Val ta σ H (.ref p)) (ho : H p = some (.ins (C_Bench K) dx (F_Bench x_lengths x_cells x_lanes x_boxes x_masks x_slots x_dust x_picks x_place x_touches x_now x_carried x_raised))) (q : D.nx σ (upd H p (.ins (C_Bench K) dx (F_Bench x_lengths x_cells x_lanes x_boxes x_masks x_slots x_dust x_picks x_place x_touches x_now y x_raised)))) : sFld K ta tv "carried" D σ H :=
  st_fld hv h ho T.c_Bench T.n_Bench_carried N_Bench (by rw [P_Bench_carried]; exact q)
/-- store -/
theorem w_Bench_raised (T : Tx K mg) (hv : Val tv σ H y) (h : Val ta σ H (.ref p)) (ho : H p = some (.ins (C_Bench K) dx (F_Bench x_lengths x_cells x_lanes x_boxes x_masks x_slots x_dust x_picks x_place x_touches x_now x_carried x_raised))) (q : D.nx σ (upd H p (.ins (C_Bench K) dx (F_Bench x_lengths x_cells x_lanes x_boxes x_masks x_slots x_dust x_picks x_place x_touches x_now x_carried y)))) : sFld K ta tv "raised" D σ H :=
  st_fld hv h ho T.c_Bench T.n_Bench_raised N_Bench (by rw [P_Bench_raised]; exact q)
theorem I_Bench_0 : putF "lengths" x_lengths ([] : List (Str × V)) = ([("lengths", x_lengths)] : List (Str × V)) := by kernel_rfl
theorem J_Bench_0 : ([] : List (Str × V)).length < 1000 := by show 0 < 1000; decide
theorem I_Bench_1 : putF "cells" x_cells ([("lengths", x_lengths)] : List (Str × V)) = ([("lengths", x_lengths), ("cells", x_cells)] : List (Str × V)) := by kernel_rfl
theorem J_Bench_1 : ([("lengths", x_lengths)] : List (Str × V)).length < 1000 := by show 1 < 1000; decide
theorem I_Bench_2 : putF "lanes" x_lanes ([("lengths", x_lengths), ("cells", x_cells)] : List (Str × V)) = ([("lengths", x_lengths), ("cells", x_cells), ("lanes", x_lanes)] : List (Str × V)) := by kernel_rfl
theorem J_Bench_2 : ([("lengths", x_lengths), ("cells", x_cells)] : List (Str × V)).length < 1000 := by show 2 < 1000; decide
theorem I_Bench_3 : putF "boxes" x_boxes ([("lengths", x_lengths), ("cells", x_cells), ("lanes", x_lanes)] : List (Str × V)) = ([("lengths", x_lengths), ("cells", x_cells), ("lanes", x_lanes), ("boxes", x_boxes)] : List (Str × V)) := by kernel_rfl
theorem J_Bench_3 : ([("lengths", x_lengths), ("cells", x_cells), ("lanes", x_lanes)] : List (Str × V)).length < 1000 := by show 3 < 1000; decide
theorem I_Bench_4 : putF "masks" x_masks ([("lengths", x_lengths), ("cells", x_cells), ("lanes", x_lanes), ("boxes", x_boxes)] : List (Str × V)) = ([("lengths", x_lengths), ("cells", x_cells), ("lanes", x_lanes), ("boxes", x_boxes), ("masks", x_masks)] : List (Str × V)) := by kernel_rfl
theorem J_Bench_4 : ([("lengths", x_lengths), ("cells", x_cells), ("lanes", x_lanes), ("boxes", x_boxes)] : List (Str × V)).length < 1000 := by show 4 < 1000; decide
theorem I_Bench_5 : putF "slots" x_slots ([("lengths", x_lengths), ("cells", x_cells), ("lanes", x_lanes), ("boxes", x_boxes), ("masks", x_masks)] : List (Str × V)) = ([("lengths", x_lengths), ("cells", x_cells), ("lanes", x_lanes), ("boxes", x_boxes), ("masks", x_masks), ("slots", x_slots)] : List (Str × V)) := by kernel_rfl
theorem J_Bench_5 : ([("lengths", x_lengths), ("cells", x_cells), ("lanes", x_lanes), ("boxes", x_boxes), ("masks", x_masks)] : List (Str × V)).length < 1000 := by show 5 < 1000; decide
theorem I_Bench_6 : putF "dust" x_dust ([("lengths", x_lengths), ("cells", x_cells), ("lanes", x_lanes), ("boxes", x_boxes), ("masks", x_masks), ("slots", x_slots)] : List (Str × V)) = ([("lengths", x_lengths), ("cells", x_cells), ("lanes", x_lanes), ("boxes", x_boxes), ("masks", x_masks), ("slots", x_slots), ("dust", x_dust)] : List (Str × V)) := by kernel_rfl
theorem J_Bench_6 : ([("lengths", x_lengths), ("cells", x_cells), ("lanes", x_lanes), ("boxes", x_boxes), ("masks", x_masks), ("slots", x_slots)] : List (Str × V)).length < 1000 := by show 6 < 1000; decide
theorem I_Bench_7 : putF "picks" x_picks ([("lengths", x_lengths), ("cells", x_cells), ("lanes", x_lanes), ("boxes", x_boxes), ("masks", x_masks), ("slots", x_slots), ("dust", x_dust)] : List (Str × V)) = ([("lengths", x_lengths), ("cells", x_cells), ("lanes", x_lanes), ("boxes", x_boxes), ("masks", x_masks), ("slots", x_slots), ("dust", x_dust), ("picks", x_picks)] : List (Str × V)) := by kernel_rfl
theorem J_Bench_7 : ([("lengths", x_lengths), ("cells", x_cells), ("lanes", x_lanes), ("boxes", x_boxes), ("masks", x_masks), ("slots", x_slots), ("dust", x_dust)] : List (Str × V)).length < 1000 := by show 7 < 1000; decide
theorem I_Bench_8 : putF "place" x_place ([("lengths", x_lengths), ("cells", x_cells), ("lanes", x_lanes), ("boxes", x_boxes), ("masks", x_masks), ("slots", x_slots), ("dust", x_dust), ("picks", x_picks)] : List (Str × V)) = ([("lengths", x_lengths), ("cells", x_cells), ("lanes", x_lanes), ("boxes", x_boxes), ("masks", x_masks), ("slots", x_slots), ("dust", x_dust), ("picks", x_picks), ("place", x_place)] : List (Str × V)) := by kernel_rfl
theorem J_Bench_8 : ([("lengths", x_lengths), ("cells", x_cells), ("lanes", x_lanes), ("boxes", x_boxes), ("masks", x_masks), ("slots", x_slots), ("dust", x_dust), ("picks", x_picks)] : List (Str × V)).length < 1000 := by show 8 < 1000; decide
theorem I_Bench_9 : putF "touches" x_touches ([("lengths", x_lengths), ("cells", x_cells), ("lanes", x_lanes), ("boxes", x_boxes), ("masks", x_masks), ("slots", x_slots), ("dust", x_dust), ("picks", x_picks), ("place", x_place)] : List (Str × V)) = ([("lengths", x_lengths), ("cells", x_cells), ("lanes", x_lanes), ("boxes", x_boxes), ("masks", x_masks), ("slots", x_slots), ("dust", x_dust), ("picks", x_picks), ("place", x_place), ("touches", x_touches)] : List (Str × V)) := by kernel_rfl
theorem J_Bench_9 : ([("lengths", x_lengths), ("cells", x_cells), ("lanes", x_lanes), ("boxes", x_boxes), ("masks", x_masks), ("slots", x_slots), ("dust", x_dust), ("picks", x_picks), ("place", x_place)] : List (Str × V)).length < 1000 := by show 9 < 1000; decide
theorem I_Bench_10 : putF "now" x_now ([("lengths", x_lengths), ("cells", x_cells), ("lanes", x_lanes), ("boxes", x_boxes), ("masks", x_masks), ("slots", x_slots), ("dust", x_dust), ("picks", x_picks), ("place", x_place), ("touches", x_touches)] : List (Str × V)) = ([("lengths", x_lengths), ("cells", x_cells), ("lanes", x_lanes), ("boxes", x_boxes), ("masks", x_masks), ("slots", x_slots), ("dust", x_dust), ("picks", x_picks), ("place", x_place), ("touches", x_touches), ("now", x_now)] : List (Str × V)) := by kernel_rfl
theorem J_Bench_10 : ([("lengths", x_lengths), ("cells", x_cells), ("lanes", x_lanes), ("boxes", x_boxes), ("masks", x_masks), ("slots", x_slots), ("dust", x_dust), ("picks", x_picks), ("place", x_place), ("touches", x_touches)] : List (Str × V)).length < 1000 := by show 10 < 1000; decide
theorem I_Bench_11 : putF "carried" x_carried ([("lengths", x_lengths), ("cells", x_cells), ("lanes", x_lanes), ("boxes", x_boxes), ("masks", x_masks), ("slots", x_slots), ("dust", x_dust), ("picks", x_picks), ("place", x_place), ("touches", x_touches), ("now", x_now)] : List (Str × V)) = ([("lengths", x_lengths), ("cells", x_cells), ("lanes", x_lanes), ("boxes", x_boxes), ("masks", x_masks), ("slots", x_slots), ("dust", x_dust), ("picks", x_picks), ("place", x_place), ("touches", x_touches), ("now", x_now), ("carried", x_carried)] : List (Str × V)) := by kernel_rfl
theorem J_Bench_11 : ([("lengths", x_lengths), ("cells", x_cells), ("lanes", x_lanes), ("boxes", x_boxes), ("masks", x_masks), ("slots", x_slots), ("dust", x_dust), ("picks", x_picks), ("place", x_place), ("touches", x_touches), ("now", x_now)] : List (Str × V)).length < 1000 := by show 11 < 1000; decide
theorem I_Bench_12 : putF "raised" x_raised ([("lengths", x_lengths), ("cells", x_cells), ("lanes", x_lanes), ("boxes", x_boxes), ("masks", x_masks), ("slots", x_slots), ("dust", x_dust), ("picks", x_picks), ("place", x_place), ("touches", x_touches), ("now", x_now), ("carried", x_carried)] : List (Str × V)) = ((F_Bench x_lengths x_cells x_lanes x_boxes x_masks x_slots x_dust x_picks x_place x_touches x_now x_carried x_raised) : List (Str × V)) := by kernel_rfl
theorem J_Bench_12 : ([("lengths", x_lengths), ("cells", x_cells), ("lanes", x_lanes), ("boxes", x_boxes), ("masks", x_masks), ("slots", x_slots), ("dust", x_dust), ("picks", x_picks), ("place", x_place), ("touches", x_touches), ("now", x_now), ("carried", x_carried)] : List (Str × V)).length < 1000 := by show 12 < 1000; decide
end
abbrev C_Course (K : PySem.W.Frag) : Addr := He.ga K "Course"
def F_Course (x_ahead x_opened x_turns : V) : List (Str × V) := [("ahead", x_ahead), ("opened", x_opened), ("turns", x_turns)]
section
variable {x_ahead x_opened x_turns y : V} {K : PySem.W.Frag} {mg : Str → Option Value} {H : Hp} {p dx : Addr} {σ : L2.St} {ta tv : TE} {D : Ends}
theorem L_Course_ahead : List.lookup ("ahead" : Str) (F_Course x_ahead x_opened x_turns) = some x_ahead := by kernel_rfl
theorem P_Course_ahead : putF "ahead" y (F_Course x_ahead x_opened x_turns) = F_Course y x_opened x_turns := by kernel_rfl
theorem L_Course_opened : List.lookup ("opened" : Str) (F_Course x_ahead x_opened x_turns) = some x_opened := by kernel_rfl
theorem P_Course_opened : putF "opened" y (F_Course x_ahead x_opened x_turns) = F_Course x_ahead y x_turns := by kernel_rfl
theorem L_Course_turns : List.lookup ("turns" : Str) (F_Course x_ahead x_opened x_turns) = some x_turns := by kernel_rfl
theorem P_Course_turns : putF "turns" y (F_Course x_ahead x_opened x_turns) = F_Course x_ahead x_opened y := by kernel_rfl
theorem N_Course : (F_Course x_ahead x_opened x_turns).length < 1000 := by show 3 < 1000; decide
/-- read -/
theorem r_Course_ahead (T : Tx K mg) (h : Val ta σ H (.ref p)) (ho : H p = some (.ins (C_Course K) dx (F_Course x_ahead x_opened x_turns))) : Val (tFld K ta "ahead") σ H x_ahead := val_fld h ho T.c_Course T.n_Course_ahead L_Course_ahead
/-- read -/
theorem r_Course_opened (T : Tx K mg) (h : Val ta σ H (.ref p)) (ho : H p = some (.ins (C_Course K) dx (F_Course x_ahead x_opened x_turns))) : Val (tFld K ta "opened") σ H x_opened := val_fld h ho T.c_Course T.n_Course_opened L_Course_opened
/-- read -/
theorem r_Course_turns (T : Tx K mg) (h : Val ta σ H (.ref p)) (ho : H p = some (.ins (C_Course K) dx (F_Course x_ahead x_opened x_turns))) : Val (tFld K ta "turns") σ H x_turns := val_fld h ho T.c_Course T.n_Course_turns L_Course_turns
/-- store -/
theorem w_Course_ahead (T : Tx K mg) (hv : Val tv σ H y) (h : Val ta σ H (.ref p)) (ho : H p = some (.ins (C_Course K) dx (F_Course x_ahead x_opened x_turns))) (q : D.nx σ (upd H p (.ins (C_Course K) dx (F_Course y x_opened x_turns)))) : sFld K ta tv "ahead" D σ H :=
  st_fld hv h ho T.c_Course T.n_Course_ahead N_Course (by rw [P_Course_ahead]; exact q)
/-- store -/
theorem w_Course_opened (T : Tx K mg) (hv : Val tv σ H y) (h : Val ta σ H (.ref p)) (ho : H p = some (.ins (C_Course K) dx (F_Course x_ahead x_opened x_turns))) (q : D.nx σ (upd H p (.ins (C_Course K) dx (F_Course x_ahead y x_turns)))) : sFld K ta tv "opened" D σ H :=
  st_fld hv h ho T.c_Course T.n_Course_opened N_Course (by rw [P_Course_opened]; exact q)
/-- store -/
theorem w_Course_turns (T : Tx K mg) (hv : Val tv σ H y) (h : Val ta σ H (.ref p)) (ho : H p = some (.ins (C_Course K) dx (F_Course x_ahead x_opened x_turns))) (q : D.nx σ (upd H p (.ins (C_Course K) dx (F_Course x_ahead x_opened y)))) : sFld K ta tv "turns" D σ H :=
  st_fld hv h ho T.c_Course T.n_Course_turns N_Course (by rw [P_Course_turns]; exact q)
theorem I_Course_0 : putF "ahead" x_ahead ([] : List (Str × V)) = ([("ahead", x_ahead)] : List (Str × V)) := by kernel_rfl
theorem J_Course_0 : ([] : List (Str × V)).length < 1000 := by show 0 < 1000; decide
theorem I_Course_1 : putF "opened" x_opened ([("ahead", x_ahead)] : List (Str × V)) = ([("ahead", x_ahead), ("opened", x_opened)] : List (Str × V)) := by kernel_rfl
theorem J_Course_1 : ([("ahead", x_ahead)] : List (Str × V)).length < 1000 := by show 1 < 1000; decide
theorem I_Course_2 : putF "turns" x_turns ([("ahead", x_ahead), ("opened", x_opened)] : List (Str × V)) = ((F_Course x_ahead x_opened x_turns) : List (Str × V)) := by kernel_rfl
theorem J_Course_2 : ([("ahead", x_ahead), ("opened", x_opened)] : List (Str × V)).length < 1000 := by show 2 < 1000; decide
end
abbrev C_Holdings (K : PySem.W.Frag) : Addr := He.ga K "Holdings"
def F_Holdings (x_seats x_masks x_slots x_things x_roots x_written x_age : V) : List (Str × V) := [("seats", x_seats), ("masks", x_masks), ("slots", x_slots), ("things", x_things), ("roots", x_roots), ("written", x_written), ("age", x_age)]
section
variable {x_seats x_masks x_slots x_things x_roots x_written x_age y : V} {K : PySem.W.Frag} {mg : Str → Option Value} {H : Hp} {p dx : Addr} {σ : L2.St} {ta tv : TE} {D : Ends}
theorem L_Holdings_seats : List.lookup ("seats" : Str) (F_Holdings x_seats x_masks x_slots x_things x_roots x_written x_age) = some x_seats := by kernel_rfl
theorem P_Holdings_seats : putF "seats" y (F_Holdings x_seats x_masks x_slots x_things x_roots x_written x_age) = F_Holdings y x_masks x_slots x_things x_roots x_written x_age := by kernel_rfl
theorem L_Holdings_masks : List.lookup ("masks" : Str) (F_Holdings x_seats x_masks x_slots x_things x_roots x_written x_age) = some x_masks := by kernel_rfl
theorem P_Holdings_masks : putF "masks" y (F_Holdings x_seats x_masks x_slots x_things x_roots x_written x_age) = F_Holdings x_seats y x_slots x_things x_roots x_written x_age := by kernel_rfl
theorem L_Holdings_slots : List.lookup ("slots" : Str) (F_Holdings x_seats x_masks x_slots x_things x_roots x_written x_age) = some x_slots := by kernel_rfl
theorem P_Holdings_slots : putF "slots" y (F_Holdings x_seats x_masks x_slots x_things x_roots x_written x_age) = F_Holdings x_seats x_masks y x_things x_roots x_written x_age := by kernel_rfl
theorem L_Holdings_things : List.lookup ("things" : Str) (F_Holdings x_seats x_masks x_slots x_things x_roots x_written x_age) = some x_things := by kernel_rfl
theorem P_Holdings_things : putF "things" y (F_Holdings x_seats x_masks x_slots x_things x_roots x_written x_age) = F_Holdings x_seats x_masks x_slots y x_roots x_written x_age := by kernel_rfl
theorem L_Holdings_roots : List.lookup ("roots" : Str) (F_Holdings x_seats x_masks x_slots x_things x_roots x_written x_age) = some x_roots := by kernel_rfl
theorem P_Holdings_roots : putF "roots" y (F_Holdings x_seats x_masks x_slots x_things x_roots x_written x_age) = F_Holdings x_seats x_masks x_slots x_things y x_written x_age := by kernel_rfl
theorem L_Holdings_written : List.lookup ("written" : Str) (F_Holdings x_seats x_masks x_slots x_things x_roots x_written x_age) = some x_written := by kernel_rfl
theorem P_Holdings_written : putF "written" y (F_Holdings x_seats x_masks x_slots x_things x_roots x_written x_age) = F_Holdings x_seats x_masks x_slots x_things x_roots y x_age := by kernel_rfl
theorem L_Holdings_age : List.lookup ("age" : Str) (F_Holdings x_seats x_masks x_slots x_things x_roots x_written x_age) = some x_age := by kernel_rfl
theorem P_Holdings_age : putF "age" y (F_Holdings x_seats x_masks x_slots x_things x_roots x_written x_age) = F_Holdings x_seats x_masks x_slots x_things x_roots x_written y := by kernel_rfl
theorem N_Holdings : (F_Holdings x_seats x_masks x_slots x_things x_roots x_written x_age).length < 1000 := by show 7 < 1000; decide
/-- read -/
theorem r_Holdings_seats (T : Tx K mg) (h : Val ta σ H (.ref p)) (ho : H p = some (.ins (C_Holdings K) dx (F_Holdings x_seats x_masks x_slots x_things x_roots x_written x_age))) : Val (tFld K ta "seats") σ H x_seats := val_fld h ho T.c_Holdings T.n_Holdings_seats L_Holdings_seats
/-- read -/
theorem r_Holdings_masks (T : Tx K mg) (h : Val ta σ H (.ref p)) (ho : H p = some (.ins (C_Holdings K) dx (F_Holdings x_seats x_masks x_slots x_things x_roots x_written x_age))) : Val (tFld K ta "masks") σ H x_masks := val_fld h ho T.c_Holdings T.n_Holdings_masks L_Holdings_masks
/-- read -/
theorem r_Holdings_slots (T : Tx K mg) (h : Val ta σ H (.ref p)) (ho : H p = some (.ins (C_Holdings K) dx (F_Holdings x_seats x_masks x_slots x_things x_roots x_written x_age))) : Val (tFld K ta "slots") σ H x_slots := val_fld h ho T.c_Holdings T.n_Holdings_slots L_Holdings_slots
/-- read -/
theorem r_Holdings_things (T : Tx K mg) (h : Val ta σ H (.ref p)) (ho : H p = some (.ins (C_Holdings K) dx (F_Holdings x_seats x_masks x_slots x_things x_roots x_written x_age))) : Val (tFld K ta "things") σ H x_things := val_fld h ho T.c_Holdings T.n_Holdings_things L_Holdings_things
/-- read -/
theorem r_Holdings_roots (T : Tx K mg) (h : Val ta σ H (.ref p)) (ho : H p = some (.ins (C_Holdings K) dx (F_Holdings x_seats x_masks x_slots x_things x_roots x_written x_age))) : Val (tFld K ta "roots") σ H x_roots := val_fld h ho T.c_Holdings T.n_Holdings_roots L_Holdings_roots
/-- read -/
theorem r_Holdings_written (T : Tx K mg) (h : Val ta σ H (.ref p)) (ho : H p = some (.ins (C_Holdings K) dx (F_Holdings x_seats x_masks x_slots x_things x_roots x_written x_age))) : Val (tFld K ta "written") σ H x_written := val_fld h ho T.c_Holdings T.n_Holdings_written L_Holdings_written
/-- read -/
theorem r_Holdings_age (T : Tx K mg) (h : Val ta σ H (.ref p)) (ho : H p = some (.ins (C_Holdings K) dx (F_Holdings x_seats x_masks x_slots x_things x_roots x_written x_age))) : Val (tFld K ta "age") σ H x_age := val_fld h ho T.c_Holdings T.n_Holdings_age L_Holdings_age
/-- store -/
theorem w_Holdings_seats (T : Tx K mg) (hv : Val tv σ H y) (h : Val ta σ H (.ref p)) (ho : H p = some (.ins (C_Holdings K) dx (F_Holdings x_seats x_masks x_slots x_things x_roots x_written x_age))) (q : D.nx σ (upd H p (.ins (C_Holdings K) dx (F_Holdings y x_masks x_slots x_things x_roots x_written x_age)))) : sFld K ta tv "seats" D σ H :=
  st_fld hv h ho T.c_Holdings T.n_Holdings_seats N_Holdings (by rw [P_Holdings_seats]; exact q)
/-- store -/
theorem w_Holdings_masks (T : Tx K mg) (hv : Val tv σ H y) (h : Val ta σ H (.ref p)) (ho : H p = some (.ins (C_Holdings K) dx (F_Holdings x_seats x_masks x_slots x_things x_roots x_written x_age))) (q : D.nx σ (upd H p (.ins (C_Holdings K) dx (F_Holdings x_seats y x_slots x_things x_roots x_written x_age)))) : sFld K ta tv "masks" D σ H :=
  st_fld hv h ho T.c_Holdings T.n_Holdings_masks N_Holdings (by rw [P_Holdings_masks]; exact q)
/-- store -/
theorem w_Holdings_slots (T : Tx K mg) (hv : Val tv σ H y) (h : Val ta σ H (.ref p)) (ho : H p = some (.ins (C_Holdings K) dx (F_Holdings x_seats x_masks x_slots x_things x_roots x_written x_age))) (q : D.nx σ (upd H p (.ins (C_Holdings K) dx (F_Holdings x_seats x_masks y x_things x_roots x_written x_age)))) : sFld K ta tv "slots" D σ H :=
  st_fld hv h ho T.c_Holdings T.n_Holdings_slots N_Holdings (by rw [P_Holdings_slots]; exact q)
/-- store -/
theorem w_Holdings_things (T : Tx K mg) (hv : Val tv σ H y) (h : Val ta σ H (.ref p)) (ho : H p = some (.ins (C_Holdings K) dx (F_Holdings x_seats x_masks x_slots x_things x_roots x_written x_age))) (q : D.nx σ (upd H p (.ins (C_Holdings K) dx (F_Holdings x_seats x_masks x_slots y x_roots x_written x_age)))) : sFld K ta tv "things" D σ H :=
  st_fld hv h ho T.c_Holdings T.n_Holdings_things N_Holdings (by rw [P_Holdings_things]; exact q)
/-- store -/
theorem w_Holdings_roots (T : Tx K mg) (hv : Val tv σ H y) (h : Val ta σ H (.ref p)) (ho : H p = some (.ins (C_Holdings K) dx (F_Holdings x_seats x_masks x_slots x_things x_roots x_written x_age))) (q : D.nx σ (upd H p (.ins (C_Holdings K) dx (F_Holdings x_seats x_masks x_slots x_things y x_written x_age)))) : sFld K ta tv "roots" D σ H :=
  st_fld hv h ho T.c_Holdings T.n_Holdings_roots N_Holdings (by rw [P_Holdings_roots]; exact q)
/-- store -/
theorem w_Holdings_written (T : Tx K mg) (hv : Val tv σ H y) (h : Val ta σ H (.ref p)) (ho : H p = some (.ins (C_Holdings K) dx (F_Holdings x_seats x_masks x_slots x_things x_roots x_written x_age))) (q : D.nx σ (upd H p (.ins (C_Holdings K) dx (F_Holdings x_seats x_masks x_slots x_things x_roots y x_age)))) : sFld K ta tv "written" D σ H :=
  st_fld hv h ho T.c_Holdings T.n_Holdings_written N_Holdings (by rw [P_Holdings_written]; exact q)
/-- store -/
theorem w_Holdings_age (T : Tx K mg) (hv : Val tv σ H y) (h : Val ta σ H (.ref p)) (ho : H p = some (.ins (C_Holdings K) dx (F_Holdings x_seats x_masks x_slots x_things x_roots x_written x_age))) (q : D.nx σ (upd H p (.ins (C_Holdings K) dx (F_Holdings x_seats x_masks x_slots x_things x_roots x_written y)))) : sFld K ta tv "age" D σ H :=
  st_fld hv h ho T.c_Holdings T.n_Holdings_age N_Holdings (by rw [P_Holdings_age]; exact q)
theorem I_Holdings_0 : putF "seats" x_seats ([] : List (Str × V)) = ([("seats", x_seats)] : List (Str × V)) := by kernel_rfl
theorem J_Holdings_0 : ([] : List (Str × V)).length < 1000 := by show 0 < 1000; decide
theorem I_Holdings_1 : putF "masks" x_masks ([("seats", x_seats)] : List (Str × V)) = ([("seats", x_seats), ("masks", x_masks)] : List (Str × V)) := by kernel_rfl
theorem J_Holdings_1 : ([("seats", x_seats)] : List (Str × V)).length < 1000 := by show 1 < 1000; decide
theorem I_Holdings_2 : putF "slots" x_slots ([("seats", x_seats), ("masks", x_masks)] : List (Str × V)) = ([("seats", x_seats), ("masks", x_masks), ("slots", x_slots)] : List (Str × V)) := by kernel_rfl
theorem J_Holdings_2 : ([("seats", x_seats), ("masks", x_masks)] : List (Str × V)).length < 1000 := by show 2 < 1000; decide
theorem I_Holdings_3 : putF "things" x_things ([("seats", x_seats), ("masks", x_masks), ("slots", x_slots)] : List (Str × V)) = ([("seats", x_seats), ("masks", x_masks), ("slots", x_slots), ("things", x_things)] : List (Str × V)) := by kernel_rfl
theorem J_Holdings_3 : ([("seats", x_seats), ("masks", x_masks), ("slots", x_slots)] : List (Str × V)).length < 1000 := by show 3 < 1000; decide
theorem I_Holdings_4 : putF "roots" x_roots ([("seats", x_seats), ("masks", x_masks), ("slots", x_slots), ("things", x_things)] : List (Str × V)) = ([("seats", x_seats), ("masks", x_masks), ("slots", x_slots), ("things", x_things), ("roots", x_roots)] : List (Str × V)) := by kernel_rfl
theorem J_Holdings_4 : ([("seats", x_seats), ("masks", x_masks), ("slots", x_slots), ("things", x_things)] : List (Str × V)).length < 1000 := by show 4 < 1000; decide
theorem I_Holdings_5 : putF "written" x_written ([("seats", x_seats), ("masks", x_masks), ("slots", x_slots), ("things", x_things), ("roots", x_roots)] : List (Str × V)) = ([("seats", x_seats), ("masks", x_masks), ("slots", x_slots), ("things", x_things), ("roots", x_roots), ("written", x_written)] : List (Str × V)) := by kernel_rfl
theorem J_Holdings_5 : ([("seats", x_seats), ("masks", x_masks), ("slots", x_slots), ("things", x_things), ("roots", x_roots)] : List (Str × V)).length < 1000 := by show 5 < 1000; decide
theorem I_Holdings_6 : putF "age" x_age ([("seats", x_seats), ("masks", x_masks), ("slots", x_slots), ("things", x_things), ("roots", x_roots), ("written", x_written)] : List (Str × V)) = ((F_Holdings x_seats x_masks x_slots x_things x_roots x_written x_age) : List (Str × V)) := by kernel_rfl
theorem J_Holdings_6 : ([("seats", x_seats), ("masks", x_masks), ("slots", x_slots), ("things", x_things), ("roots", x_roots), ("written", x_written)] : List (Str × V)).length < 1000 := by show 6 < 1000; decide
end
abbrev C_Wanted (K : PySem.W.Frag) : Addr := He.ga K "Wanted"
def F_Wanted (x_seats x_masks x_slots : V) : List (Str × V) := [("seats", x_seats), ("masks", x_masks), ("slots", x_slots)]
section
variable {x_seats x_masks x_slots y : V} {K : PySem.W.Frag} {mg : Str → Option Value} {H : Hp} {p dx : Addr} {σ : L2.St} {ta tv : TE} {D : Ends}
theorem L_Wanted_seats : List.lookup ("seats" : Str) (F_Wanted x_seats x_masks x_slots) = some x_seats := by kernel_rfl
theorem P_Wanted_seats : putF "seats" y (F_Wanted x_seats x_masks x_slots) = F_Wanted y x_masks x_slots := by kernel_rfl
theorem L_Wanted_masks : List.lookup ("masks" : Str) (F_Wanted x_seats x_masks x_slots) = some x_masks := by kernel_rfl
theorem P_Wanted_masks : putF "masks" y (F_Wanted x_seats x_masks x_slots) = F_Wanted x_seats y x_slots := by kernel_rfl
theorem L_Wanted_slots : List.lookup ("slots" : Str) (F_Wanted x_seats x_masks x_slots) = some x_slots := by kernel_rfl
theorem P_Wanted_slots : putF "slots" y (F_Wanted x_seats x_masks x_slots) = F_Wanted x_seats x_masks y := by kernel_rfl
theorem N_Wanted : (F_Wanted x_seats x_masks x_slots).length < 1000 := by show 3 < 1000; decide
/-- read -/
theorem r_Wanted_seats (T : Tx K mg) (h : Val ta σ H (.ref p)) (ho : H p = some (.ins (C_Wanted K) dx (F_Wanted x_seats x_masks x_slots))) : Val (tFld K ta "seats") σ H x_seats := val_fld h ho T.c_Wanted T.n_Wanted_seats L_Wanted_seats
/-- read -/
theorem r_Wanted_masks (T : Tx K mg) (h : Val ta σ H (.ref p)) (ho : H p = some (.ins (C_Wanted K) dx (F_Wanted x_seats x_masks x_slots))) : Val (tFld K ta "masks") σ H x_masks := val_fld h ho T.c_Wanted T.n_Wanted_masks L_Wanted_masks
/-- read -/
theorem r_Wanted_slots (T : Tx K mg) (h : Val ta σ H (.ref p)) (ho : H p = some (.ins (C_Wanted K) dx (F_Wanted x_seats x_masks x_slots))) : Val (tFld K ta "slots") σ H x_slots := val_fld h ho T.c_Wanted T.n_Wanted_slots L_Wanted_slots
/-- store -/
theorem w_Wanted_seats (T : Tx K mg) (hv : Val tv σ H y) (h : Val ta σ H (.ref p)) (ho : H p = some (.ins (C_Wanted K) dx (F_Wanted x_seats x_masks x_slots))) (q : D.nx σ (upd H p (.ins (C_Wanted K) dx (F_Wanted y x_masks x_slots)))) : sFld K ta tv "seats" D σ H :=
  st_fld hv h ho T.c_Wanted T.n_Wanted_seats N_Wanted (by rw [P_Wanted_seats]; exact q)
/-- store -/
theorem w_Wanted_masks (T : Tx K mg) (hv : Val tv σ H y) (h : Val ta σ H (.ref p)) (ho : H p = some (.ins (C_Wanted K) dx (F_Wanted x_seats x_masks x_slots))) (q : D.nx σ (upd H p (.ins (C_Wanted K) dx (F_Wanted x_seats y x_slots)))) : sFld K ta tv "masks" D σ H :=
  st_fld hv h ho T.c_Wanted T.n_Wanted_masks N_Wanted (by rw [P_Wanted_masks]; exact q)
/-- store -/
theorem w_Wanted_slots (T : Tx K mg) (hv : Val tv σ H y) (h : Val ta σ H (.ref p)) (ho : H p = some (.ins (C_Wanted K) dx (F_Wanted x_seats x_masks x_slots))) (q : D.nx σ (upd H p (.ins (C_Wanted K) dx (F_Wanted x_seats x_masks y)))) : sFld K ta tv "slots" D σ H :=
  st_fld hv h ho T.c_Wanted T.n_Wanted_slots N_Wanted (by rw [P_Wanted_slots]; exact q)
theorem I_Wanted_0 : putF "seats" x_seats ([] : List (Str × V)) = ([("seats", x_seats)] : List (Str × V)) := by kernel_rfl
theorem J_Wanted_0 : ([] : List (Str × V)).length < 1000 := by show 0 < 1000; decide
theorem I_Wanted_1 : putF "masks" x_masks ([("seats", x_seats)] : List (Str × V)) = ([("seats", x_seats), ("masks", x_masks)] : List (Str × V)) := by kernel_rfl
theorem J_Wanted_1 : ([("seats", x_seats)] : List (Str × V)).length < 1000 := by show 1 < 1000; decide
theorem I_Wanted_2 : putF "slots" x_slots ([("seats", x_seats), ("masks", x_masks)] : List (Str × V)) = ((F_Wanted x_seats x_masks x_slots) : List (Str × V)) := by kernel_rfl
theorem J_Wanted_2 : ([("seats", x_seats), ("masks", x_masks)] : List (Str × V)).length < 1000 := by show 2 < 1000; decide
end
end Rb
set_option Elab.async false
set_option linter.all false
set_option maxRecDepth 100000
set_option maxHeartbeats 4000000
/-! own rules beside the layer's, the shape of a kept promise -/
namespace Rb
open PySem PySem.Spec PyProof.Rows L2
section
variable {X : Cx}
theorem op_fdivZ : OpR X (binaryOp .FloorDiv) (rI (fun _ j => j ≠ 0 ∧ j.natAbs.log2 < 9000) fun i j => .int (i.fdiv j)) := opI fun _ _ _ _ _ _ _ hc q => floordiv_int hc.1 q (.inl (PyProof.noPylong_of_log2 hc.2))
theorem call_divmodZ : CallR X (.builtin "divmod") (fun xs H Q => ∃ i j, xs = [.int i, .int j] ∧ (j ≠ 0 ∧ j.natAbs.log2 < 9000) ∧ ∀ p, H p = none → Q (.ref p) (upd H p (.tup [.int (i.fdiv j), .int (i.fmod j)]))) := by
  intro pins s σ H xs us Q I r h
  obtain ⟨i, j, rfl, ⟨h1, h2⟩, q⟩ := h
  obtain ⟨u, w', rfl, ⟨t, rfl⟩, ⟨t', rfl⟩⟩ := vals2 r
  refine divmod_int h1 ?_ (.inl (PyProof.noPylong_of_log2 h2))
  have hn : H s.heap.objs.size = none := I.hok.fresh (Nat.le_refl _)
  refine ⟨.ref s.heap.objs.size, _, ?_, rfl, q _ hn⟩
  refine I.laid (fun b o e => Heap.get?_push_of_some _ e) (Nat.le_refl _) ⟨by simp only [List.length_cons, List.length_nil]; rw [sizeLine_eq]; decide, [.int (i.fdiv j) s.toks, .int (i.fmod j) (s.toks + 1)], .cons ⟨_, rfl⟩ (.cons ⟨_, rfl⟩ .nil), ?_⟩
  exact ⟨_, Heap.get?_push_size s.heap rfl, rfl, 0, rfl⟩
end
section
variable {X : Cx} {CX : CXT} {k : Nat} {C f : Addr} {fd : FuncData} {ps : List Str} {ds : List Value} {dvs : List V} {mc : Value} {sp : Sp} {E : XK} {o e : Expr} {es : List Expr} {m : Str} {pos apos : Pos} {ta : TE} {t : TA} {pl : Sem Bool}
/-- C.m(a, ..), m a plain def of the class C -/
def tCFn (C : Addr) (sp : Sp) (dvs : List V) (E : XK) (ta : TE) (t : TA) : TE := fun σ H Q => ta σ H fun x H1 => x = .ref C ∧ t σ H1 fun vs H2 => sp (vs ++ dvs) H2 Q E
theorem pe_cfn (he : PE X o ta) (r : ClX.CRead X.K C mc) (c : ClX.CVal X.K C mc m (.ref f) (.ref f)) (F : FnOk X.prog X.w X.K X.mg X.base CX k f fd ps sp) (hr : Room k X.A) (hk : PySem.W.keepIn X.K (.ref f) = true) (hb : Binds X.K fd ps ds) (hd : Vals dvs ds) (hx : Passes CX X E) (ha : PA X (e :: es) t)
    (hst : starEach (e :: es) X.env = (false, eval e X.env) :: starEach es X.env := by rfl) (hpl : (backTo pos (starEach es X.env)).any (·.1) = false := by rfl)
    (ht : eval (.Call (.Attribute o m apos) (e :: es) [] pos) X.env = (do
      let ov ← eval o X.env
      standAt apos.atName
      let (f, first) ← holding [ov] (getMethod ov m pl)
      callWith pos f first (backTo pos (starEach (e :: es) X.env)) (backToKw pos (keywordEach [] X.env))) := by rfl) :
    PE X (.Call (.Attribute o m apos) (e :: es) [] pos) (tCFn C sp dvs E ta t) := by
  refine ⟨fun pins s σ H Q I h => ?_⟩
  refine PySem.W.methodCall_KW (pl := pl) (thn (he.run pins s σ H _ I h) fun u s1 ⟨x, H1, I1, rx, ex, q⟩ => ?_) ht
  subst ex
  obtain rfl : u = Value.ref C := rx
  refine PySem.W.method_cls I1.kIn r.ga (ClX.getcval_ok I1 r c fun s2 I2 => ?_)
  refine PySem.W.callWith_K (first := []) (h₀ := X.base) I2.ok.mod.kin hk (thn (ha.run pos pins s2 σ H1 _ I2 q) fun us s3 ⟨vs, H2, I3, rv, q2⟩ => ⟨I3.kIn, ?_⟩) hst hpl
  exact run_fn F hr hb hd hx I3 rv q2
end
/-! ### a kept promise -/
def Gd (P : Program) (w : World) (K : PySem.W.Frag) (mg : Str → Option Value) (base : Heap) (CX : CXT) (k : Nat) (f : Addr) (ps : List Str) (dvs : List V) (sp : Sp) : Prop :=
  ∃ fd, FnOk P w K mg base CX k f fd ps sp ∧ PySem.W.keepIn K (.ref f) = true ∧ ∃ ds, Vals dvs ds ∧ Binds K fd ps ds
section
variable {P : Program} {w : World} {K : PySem.W.Frag} {mg : Str → Option Value} {base : Heap} {x qual : Str} {params : Arguments} {body : List Stmt} {scope : Scope} {f : Addr} {N ps : List Str} {k : Nat} {sp : Sp} {dvs kws' : List V}
theorem gd_mk {kws : List (Str × V)} {dv : List V} (d : ∃ fd, FunD K x qual params body scope dv kws f fd) (S : FnScope N ps scope)
    (hb : ∀ {fd}, FunD K x qual params body scope dv kws f fd → ∃ ds, Vals dvs ds ∧ Binds K fd ps ds) (len : ∀ vs H Q E, sp vs H Q E → vs.length = ps.length)
    (hbody : ∀ (cdv : Value) (A : Around) (outer : List Env) (s : Shared) (H : Hp) (vs : List V) (Q : VK) (E : XK), Room k (A.deeper (envOfC qual scope s.heap.objs.size f cdv)) → sp vs H Q E →
      ∃ t, PSs (cxOf CX0 P w K mg base N qual scope f cdv A outer s H E).nox body t ∧ t { nx := fun _ H' => Q .non H', rt := Q } (start N vs) H) : Gd P w K mg base CX0 (k + 1) f ps dvs sp := by
  obtain ⟨fd, F⟩ := d
  refine ⟨fd, F.ok S len fun cdv A outer s H vs Q E hr h => ?_, F.kp, hb F⟩
  obtain ⟨t, h1, h2⟩ := hbody cdv A outer s H vs Q E hr h
  exact ⟨t, h1.nox, h2⟩
theorem gd_mkX {kws : List (Str × V)} {dv : List V} (d : ∃ fd, FunD K x qual params body scope dv kws f fd) (S : FnScope N ps scope)
    (hb : ∀ {fd}, FunD K x qual params body scope dv kws f fd → ∃ ds, Vals dvs ds ∧ Binds K fd ps ds) (len : ∀ vs H Q E, sp vs H Q E → vs.length = ps.length)
    (hbody : ∀ (cdv : Value) (A : Around) (outer : List Env) (s : Shared) (H : Hp) (vs : List V) (Q : VK) (E : XK), Room k (A.deeper (envOfC qual scope s.heap.objs.size f cdv)) → sp vs H Q E →
      ∃ t, PSs (cxOf (L2.CX P w) P w K mg base N qual scope f cdv A outer s H E) body t ∧ t { nx := fun _ H' => Q .non H', rt := Q } (start N vs) H) : Gd P w K mg base (L2.CX P w) (k + 1) f ps dvs sp := by
  obtain ⟨fd, F⟩ := d
  exact ⟨fd, F.ok S len fun cdv A outer s H vs Q E hr h => hbody cdv A outer s H vs Q E hr h, F.kp, hb F⟩
end
/-- the binding of a def whose parameters are all given -/
theorem bn {K : PySem.W.Frag} {fd : FuncData} {ps : List Str} (h : Binds K fd ps []) : ∃ ds, Vals [] ds ∧ Binds K fd ps ds := ⟨[], .nil, h⟩
/-- what a promise's arguments look like -/
theorem len_of {sp : Sp} {n : Nat} (h : ∀ vs H Q E, sp vs H Q E → ∃ l : List V, vs = l ∧ l.length = n) : ∀ vs H Q E, sp vs H Q E → vs.length = n := fun vs H Q E q => by
  obtain ⟨l, e, z⟩ := h vs H Q E q
  rw [e, z]
/-! ### heaps -/
/-- all but B stays -/
def But (B : Addr → Prop) (H H' : Hp) : Prop := ∀ a o, H a = some o → ¬ B a → H' a = some o
theorem same_new {H : Hp} {p : Addr} {o : HO} (h : H p = none) : Same H (upd H p o) := fun b u e => by
  rw [upd_ne (ne_of_none e h)]
  exact e
theorem seql {K : PySem.W.Frag} {H : Hp} {a : Addr} {xs : List V} (h : H a = some (.lst xs)) : SqL K H a xs := .inl (.inl h)
theorem seqt {K : PySem.W.Frag} {H : Hp} {a : Addr} {xs : List V} (h : H a = some (.tup xs)) : SqT K H a xs := .inl (.inl h)
theorem log2_kept {i : Int} (h1 : -(2 ^ 63) ≤ i) (h2 : i < 2 ^ 63) : i.natAbs.log2 < 9000 := by
  have h : i.natAbs < 2 ^ 64 := by omega
  have h3 : i.natAbs.log2 < 64 ∨ i.natAbs = 0 := by
    by_cases z : i.natAbs = 0
    · exact .inr z
    · exact .inl ((Nat.log2_lt z).mpr h)
  rcases h3 with h3 | h3
  · omega
  · rw [h3]
    decide
end Rb
set_option Elab.async false
set_option linter.all false
set_option maxRecDepth 100000
set_option maxHeartbeats 4000000
namespace Rb
open PySem PySem.Spec PyProof.Rows L2
/-- the kept number -/
def kp (n : Int) : Int := (n + 9223372036854775808).fmod 18446744073709551616 - 9223372036854775808
def spKept : Sp := fun vs H Q _ => ∃ n : Int, vs = [.int n] ∧ Q (.int (kp n)) H
def spStart (K : PySem.W.Frag) : Sp := fun vs H Q _ => ∃ (a : Addr) (ls : List Int) (r : Nat), vs = [.ref a, .int r] ∧ SqL K H a (ls.map V.int) ∧ r ≤ ls.length ∧ ∀ H', Same H H' → Q (.int (ls.take r).sum) H'
def spDone (K : PySem.W.Frag) : Sp := fun vs H Q E => ∃ (s : Str) (l r : Int), vs = [.str s, .int l, .int r] ∧
  ((s = "+" ∧ Q (.int (kp (l + r))) H) ∨ (s = "/" ∧ -(2 ^ 63) ≤ r ∧ r < 2 ^ 63 ∧ (r = 0 → E (.ref (C_ByNought K)) none H) ∧ (r ≠ 0 → ∀ H', Same H H' → Q (.int (kp (l.fdiv r))) H')))
section
variable {P : Program} {w : World} {K : PySem.W.Frag} {mg : Str → Option Value} {base : Heap}
theorem sc_kept : FnScope ["number"] ["number"] (defScope s_kept) := ⟨rfl, rfl, rfl, by decide +kernel, rfl, by decide +kernel, by decide +kernel⟩
theorem bi_kept {K : PySem.W.Frag} {f : Addr} {fd : FuncData} (F : FunD K "kept" "kept" (defArgs s_kept) (defBody s_kept) (defScope s_kept) [] [] f fd) : Binds K fd ["number"] [] := F.bindsN fun _ _ _ _ _ _ us hl => match us, hl with | [_], _ => rfl
theorem ok_kept (T : Tx K mg) : Gd P w K mg base CX0 1 (He.fAd K ("kept", none)) ["number"] [] spKept := by
  obtain ⟨tH, hHALF⟩ := T.i_HALF
  refine gd_mk T.d_kept sc_kept (fun F => bn (bi_kept F)) (fun vs H Q E h => ?_) (fun cdv A outer s H vs Q E hr h => ?_)
  · obtain ⟨n, rfl, _⟩ := h
    rfl
  · obtain ⟨n, rfl, k⟩ := h
    refine ⟨_, (pss_one (ps_ret (pe_op op_sub (pe_op op_modN (pe_op op_add (pv 0) (pe_glob (v := .int 9223372036854775808) rfl hHALF ⟨_, rfl⟩)) (pe_op op_mul pe_int (pe_glob (v := .int 9223372036854775808) rfl hHALF ⟨_, rfl⟩))) (pe_glob (v := .int 9223372036854775808) rfl hHALF ⟨_, rfl⟩)))), ?_⟩
    exact ⟨_, rfl, _, _, rfl, rfl, _, _, rfl, rfl, .inl ⟨by decide, by decide⟩, _, _, rfl, rfl, (by show (2 * 9223372036854775808 : Int) ≠ 0; decide), _, _, rfl, rfl, k⟩
theorem cutV_take {xs : List V} {r : Nat} (h : r ≤ xs.length) : cutV xs none (some (r : Int)) = xs.take r := by
  unfold cutV
  rw [HT.sIx_none, HT.sIx_nat, List.drop_zero, Nat.sub_zero, Nat.min_eq_left h]
theorem sc_start_of : FnScope ["lengths", "row"] ["lengths", "row"] (defScope s_start_of) := ⟨rfl, rfl, rfl, by decide +kernel, rfl, by decide +kernel, by decide +kernel⟩
theorem bi_start_of {K : PySem.W.Frag} {f : Addr} {fd : FuncData} (F : FunD K "start_of" "start_of" (defArgs s_start_of) (defBody s_start_of) (defScope s_start_of) [] [] f fd) : Binds K fd ["lengths", "row"] [] := F.bindsN fun _ _ _ _ _ _ us hl => match us, hl with | [_, _], _ => rfl
theorem ok_start_of (T : Tx K mg) : Gd P w K mg base CX0 1 (He.fAd K ("start_of", none)) ["lengths", "row"] [] (spStart K) := by
  refine gd_mk T.d_start_of sc_start_of (fun F => bn (bi_start_of F)) (fun vs H Q E h => ?_) (fun cdv A outer s H vs Q E hr h => ?_)
  · obtain ⟨_, _, _, rfl, _⟩ := h
    rfl
  · obtain ⟨a, ls, r, rfl, hS, hl, k⟩ := h
    refine ⟨_, (pss_one (ps_ret (pe_callB (cr_sum rfl) (by rfl) T.b_sum (by decide +kernel) (pa_cons (pe_slice sl_list (pv 0) po_none (po_some (pv 1))) pa_nil)))), ?_⟩
    refine ⟨_, rfl, _, rfl, _, rfl, a, _, rfl, hS, fun p hp => ?_⟩
    refine ⟨p, ls.take r, rfl, seql ?_, k _ (same_new hp)⟩
    rw [upd_same, cutV_take (by simpa using hl), List.map_take]
theorem sc_divided : FnScope ["sign", "left", "right", "quotient", "rest"] ["sign", "left", "right"] (defScope s_divided) := ⟨rfl, rfl, rfl, by decide +kernel, rfl, by decide +kernel, by decide +kernel⟩
theorem bi_divided {K : PySem.W.Frag} {f : Addr} {fd : FuncData} (F : FunD K "divided" "divided" (defArgs s_divided) (defBody s_divided) (defScope s_divided) [] [] f fd) : Binds K fd ["sign", "left", "right"] [] := F.bindsN fun _ _ _ _ _ _ us hl => match us, hl with | [_, _, _], _ => rfl
def spDivided (K : PySem.W.Frag) : Sp := fun vs H Q E => ∃ (l r : Int), vs = [.str "/", .int l, .int r] ∧ -(2 ^ 63) ≤ r ∧ r < 2 ^ 63 ∧ (r = 0 → E (.ref (C_ByNought K)) none H) ∧ (r ≠ 0 → ∀ H', Same H H' → Q (.int (kp (l.fdiv r))) H')
theorem ok_divided (T : Tx K mg) : Gd P w K mg base (L2.CX P w) 2 (He.fAd K ("divided", none)) ["sign", "left", "right"] [] (spDivided K) := by
  obtain ⟨fd_kept, G_kept, p_kept, ds_kept, v_kept, b_kept⟩ := ok_kept (P := P) (w := w) (base := base) T
  obtain ⟨xP, kP, bP, tP⟩ := T.x_ByNought
  refine gd_mkX T.d_divided sc_divided (fun F => bn (bi_divided F)) (fun vs H Q E h => ?_) (fun cdv A outer s H vs Q E hr h => ?_)
  · obtain ⟨_, _, rfl, _⟩ := h
    rfl
  · obtain ⟨l, r, rfl, h1, h2, k0, k1⟩ := h
    refine ⟨_, (pss_cons (ps_if (pt_cmpR op_eq (pv 2) pe_int (nomark _)) (pss_one (ps_raise rfl (takes_of rfl rfl rfl rfl) (pmk_own PySem.F.excBase_ValueError xP T.g_ByNought kP (raises_own bP tP) rfl))) pss_nil)
  (pss_cons (ps_asg (pe_callB call_divmodZ (by rfl) T.b_divmod (by decide +kernel) (pa_cons (pv 1) (pa_cons (pv 2) pa_nil))) (pg_tup rfl (pgs_cons (pg_name (i := 3) sc_divided.nd rfl (Or.inl rfl)) (pgs_cons (pg_name (i := 4) sc_divided.nd rfl (Or.inl rfl)) pgs_nil))))
  (pss_cons (ps_if (pt_cmpR op_eq (pv 0) pe_str (nomark _))
  (pss_one (ps_ret (pe_call G_kept (hr.mono (by decide)) rfl T.g_kept p_kept b_kept v_kept pass0 (pa_cons (pv 3) pa_nil))))
  pss_nil)
  (pss_one ps_never)))), ?_⟩
    refine ⟨_, rfl, rfl, _, rfl, ?_⟩
    refine ite2 (fun e => ?_) fun e => ?_
    · exact k0 (by simpa using e)
    · have hr0 : r ≠ 0 := by simpa using e
      refine ⟨_, rfl, _, rfl, _, _, rfl, ⟨hr0, log2_kept h1 h2⟩, fun p hp => ?_⟩
      refine ⟨p, _, rfl, seqt upd_same, rfl, _, _, rfl, _, _, rfl, rfl, ?_⟩
      refine ⟨_, rfl, rfl, _, rfl, iteT ?_⟩
      exact ⟨_, rfl, _, rfl, k1 hr0 _ (same_new hp)⟩
theorem sc_done : FnScope ["sign", "left", "right"] ["sign", "left", "right"] (defScope s_done) := ⟨rfl, rfl, rfl, by decide +kernel, rfl, by decide +kernel, by decide +kernel⟩
theorem bi_done {K : PySem.W.Frag} {f : Addr} {fd : FuncData} (F : FunD K "done" "done" (defArgs s_done) (defBody s_done) (defScope s_done) [] [] f fd) : Binds K fd ["sign", "left", "right"] [] := F.bindsN fun _ _ _ _ _ _ us hl => match us, hl with | [_, _, _], _ => rfl
theorem ok_done (T : Tx K mg) : Gd P w K mg base (L2.CX P w) 3 (He.fAd K ("done", none)) ["sign", "left", "right"] [] (spDone K) := by
  obtain ⟨fd_kept, G_kept, p_kept, ds_kept, v_kept, b_kept⟩ := ok_kept (P := P) (w := w) (base := base) T
  obtain ⟨fd_divided, G_divided, p_divided, ds_divided, v_divided, b_divided⟩ := ok_divided (P := P) (w := w) (base := base) T
  refine gd_mkX T.d_done sc_done (fun F => bn (bi_done F)) (fun vs H Q E h => ?_) (fun cdv A outer s H vs Q E hr h => ?_)
  · obtain ⟨_, _, _, rfl, _⟩ := h
    rfl
  · obtain ⟨sg, l, r, rfl, h⟩ := h
    refine ⟨_, (pss_cons (ps_if (pt_cmpR op_eq (pv 0) pe_str (nomark _))
  (pss_one (ps_ret (pe_call G_kept (hr.mono (by decide)) rfl T.g_kept p_kept b_kept v_kept pass0 (pa_cons (pe_op op_add (pv 1) (pv 2)) pa_nil))))
  pss_nil)
  (pss_cons (ps_if (pt_cmpR op_eq (pv 0) pe_str (nomark _))
  (pss_one ps_never)
  pss_nil)
  (pss_cons (ps_if (pt_cmpR op_eq (pv 0) pe_str (nomark _))
  (pss_one ps_never)
  pss_nil)
  (pss_cons (ps_if (PW.pt (pw_or (pt_cmpR op_eq (pv 0) pe_str (nomark _)) (pw_or1 (pt_cmpR op_eq (pv 0) pe_str (nomark _)))))
  (pss_one (ps_ret (pe_call G_divided (hr.mono (by decide)) rfl T.g_divided p_divided b_divided v_divided (passes_call (takes_of rfl rfl rfl rfl) (fun _ _ _ _ h => h)) (pa_cons (pv 0) (pa_cons (pv 1) (pa_cons (pv 2) pa_nil))))))
  pss_nil)
  (pss_cons (ps_if (pt_cmpR op_eq (pv 0) pe_str (nomark _))
  (pss_one ps_never)
  pss_nil)
  (pss_cons (ps_if (pt_cmpR op_eq (pv 0) pe_str (nomark _))
  (pss_one ps_never)
  pss_nil)
  (pss_cons (ps_if (pt_cmpR op_eq (pv 0) pe_str (nomark _))
  (pss_one ps_never)
  pss_nil)
  (pss_cons (ps_if (pt_cmpR op_eq (pv 0) pe_str (nomark _))
  (pss_one ps_never)
  pss_nil)
  (pss_one ps_never))))))))), ?_⟩
    rcases h with ⟨rfl, k⟩ | ⟨rfl, h1, h2, k0, k1⟩
    · refine ⟨_, rfl, rfl, _, rfl, iteT ?_⟩
      exact ⟨_, rfl, _, rfl, _, _, rfl, rfl, _, rfl, k⟩
    · refine ⟨_, rfl, rfl, _, rfl, iteF ?_⟩
      refine ⟨_, rfl, rfl, _, rfl, iteF ?_⟩
      refine ⟨_, rfl, rfl, _, rfl, iteF ?_⟩
      refine ⟨_, rfl, rfl, _, rfl, iteT (iteT ?_)⟩
      exact ⟨_, rfl, _, rfl, _, rfl, _, _, rfl, h1, h2, k0, k1⟩
end
end Rb
set_option Elab.async false
set_option linter.all false
set_option maxRecDepth 100000
set_option maxHeartbeats 4000000
/-! the machine's state, as it lies in the heap -/
namespace Rb
open PySem PySem.Spec PyProof.Rows L2
/-- where the machine lies -/
structure Lay where
  b : Addr
  bdx : Addr
  lens : Addr
  cells : Addr
  bx : Addr
  bxdx : Addr
  bl : Addr
  row : Nat → Addr
  ml : Addr
  mlv : List V
  m0 : Addr
  sl : Addr
  slv : List V
  s0 : Addr
  du : Addr
  dudx : Addr
  dst : Addr
  pk : Addr
  tch : Addr
/-- what it holds -/
structure MS where
  lengths : List Int
  cells : List Int
  lanes : Nat
  rows : Nat → List Int
  mask : List Bool
  slot : List Int
  stock : List Int
  spent : Nat
  touches : List V
  place : Int
  now : V
def rowsV (L : Lay) : List V := [.ref (L.row 0), .ref (L.row 1), .ref (L.row 2), .ref (L.row 3), .ref (L.row 4), .ref (L.row 5), .ref (L.row 6), .ref (L.row 7)]
theorem rowsV_at (L : Lay) {i : Nat} (h : i < 8) : (rowsV L)[i]? = some (.ref (L.row i)) := by
  match i, h with
  | 0, _ => rfl
  | 1, _ => rfl
  | 2, _ => rfl
  | 3, _ => rfl
  | 4, _ => rfl
  | 5, _ => rfl
  | 6, _ => rfl
  | 7, _ => rfl
/-- the machine's own objects stand apart -/
def Apart (L : Lay) (t : Addr → Nat) : Prop := t L.b = 0 ∧ t L.lens = 1 ∧ t L.cells = 2 ∧ t L.bx = 3 ∧ t L.bl = 4 ∧ t L.ml = 5 ∧ t L.m0 = 6 ∧ t L.sl = 7 ∧ t L.s0 = 8 ∧ t L.du = 9 ∧ t L.dst = 10 ∧ t L.tch = 11 ∧ ∀ i, i < 8 → t (L.row i) = 20 + i
/-- what its defs may change -/
def Own (L : Lay) (a : Addr) : Prop := a = L.b ∨ a = L.cells ∨ a = L.m0 ∨ a = L.s0 ∨ a = L.du ∨ a = L.tch ∨ ∃ i, i < 8 ∧ a = L.row i
structure BenchAt (K : PySem.W.Frag) (L : Lay) (S : MS) (H : Hp) : Prop where
  b : H L.b = some (.ins (C_Bench K) L.bdx (F_Bench (.ref L.lens) (.ref L.cells) (.int S.lanes) (.ref L.bx) (.ref L.ml) (.ref L.sl) (.ref L.du) (.ref L.pk) (.int S.place) (.ref L.tch) S.now .non (.bl false)))
  lens : H L.lens = some (.lst (S.lengths.map V.int))
  cells : H L.cells = some (.lst (S.cells.map V.int))
  bx : H L.bx = some (.ins (C_Boxes K) L.bxdx (F_Boxes (.int S.lanes) (.ref L.bl)))
  bl : H L.bl = some (.lst (rowsV L))
  row : ∀ i, i < 8 → H (L.row i) = some (.lst ((S.rows i).map V.int))
  ml : H L.ml = some (.lst L.mlv)
  m0 : H L.m0 = some (.lst (S.mask.map V.bl))
  sl : H L.sl = some (.lst L.slv)
  s0 : H L.s0 = some (.lst (S.slot.map V.int))
  du : H L.du = some (.ins (C_Feed K) L.dudx (F_Feed (.ref L.dst) (.int S.spent)))
  dst : H L.dst = some (.lst (S.stock.map V.int))
  tch : H L.tch = some (.lst S.touches)
  apart : ∃ t, Apart L t
  mlv : L.mlv[0]? = some (.ref L.m0)
  slv : L.slv[0]? = some (.ref L.s0)
  nrow : ∀ i, i < 8 → (S.rows i).length = S.lanes
  nmask : S.mask.length = 4 * S.lanes
  nslot : S.slot.length = 4 * S.lanes
  nspent : S.stock = [] ∨ S.spent < S.stock.length
  nlanes : 1 ≤ S.lanes ∧ S.lanes ≤ 16
theorem ne_tag {t : Addr → Nat} {a b : Addr} {m n : Nat} (h1 : t a = m) (h2 : t b = n) (h : m ≠ n) : a ≠ b := fun e => h (by rw [← h1, ← h2, e])
section
variable {K : PySem.W.Frag} {L : Lay} {S : MS} {H H' : Hp}
theorem BenchAt.same (B : BenchAt K L S H) (e : Same H H') : BenchAt K L S H' :=
  { B with b := e _ _ B.b, lens := e _ _ B.lens, cells := e _ _ B.cells, bx := e _ _ B.bx, bl := e _ _ B.bl, row := fun i h => e _ _ (B.row i h), ml := e _ _ B.ml, m0 := e _ _ B.m0, sl := e _ _ B.sl, s0 := e _ _ B.s0, du := e _ _ B.du, dst := e _ _ B.dst, tch := e _ _ B.tch }
/-- a touch more, or any other list of touches -/
theorem BenchAt.setTouches (B : BenchAt K L S H) (ts : List V) : BenchAt K L { S with touches := ts } (upd H L.tch (.lst ts)) := by
  obtain ⟨t, a0, a1, a2, a3, a4, a5, a6, a7, a8, a9, a10, a11, ar⟩ := B.apart
  have n := fun {a : Addr} {m : Nat} (h : t a = m) (z : m ≠ 11) {o} (q : H a = some o) => (upd_ne (H := H) (o := .lst ts) (ne_tag h a11 z)).trans q
  exact { B with b := n a0 (by decide) B.b, lens := n a1 (by decide) B.lens, cells := n a2 (by decide) B.cells, bx := n a3 (by decide) B.bx, bl := n a4 (by decide) B.bl, row := fun i h => n (ar i h) (by omega) (B.row i h), ml := n a5 (by decide) B.ml, m0 := n a6 (by decide) B.m0, sl := n a7 (by decide) B.sl, s0 := n a8 (by decide) B.s0, du := n a9 (by decide) B.du, dst := n a10 (by decide) B.dst, tch := upd_same }
theorem BenchAt.setCells (B : BenchAt K L S H) (xs : List Int) : BenchAt K L { S with cells := xs } (upd H L.cells (.lst (xs.map V.int))) := by
  obtain ⟨t, a0, a1, a2, a3, a4, a5, a6, a7, a8, a9, a10, a11, ar⟩ := B.apart
  have n := fun {a : Addr} {m : Nat} (h : t a = m) (z : m ≠ 2) {o} (q : H a = some o) => (upd_ne (H := H) (o := .lst (xs.map V.int)) (ne_tag h a2 z)).trans q
  exact { B with b := n a0 (by decide) B.b, lens := n a1 (by decide) B.lens, cells := upd_same, bx := n a3 (by decide) B.bx, bl := n a4 (by decide) B.bl, row := fun i h => n (ar i h) (by omega) (B.row i h), ml := n a5 (by decide) B.ml, m0 := n a6 (by decide) B.m0, sl := n a7 (by decide) B.sl, s0 := n a8 (by decide) B.s0, du := n a9 (by decide) B.du, dst := n a10 (by decide) B.dst, tch := n a11 (by decide) B.tch }
theorem BenchAt.setMask (B : BenchAt K L S H) (xs : List Bool) (hl : xs.length = 4 * S.lanes) : BenchAt K L { S with mask := xs } (upd H L.m0 (.lst (xs.map V.bl))) := by
  obtain ⟨t, a0, a1, a2, a3, a4, a5, a6, a7, a8, a9, a10, a11, ar⟩ := B.apart
  have n := fun {a : Addr} {m : Nat} (h : t a = m) (z : m ≠ 6) {o} (q : H a = some o) => (upd_ne (H := H) (o := .lst (xs.map V.bl)) (ne_tag h a6 z)).trans q
  exact { B with b := n a0 (by decide) B.b, lens := n a1 (by decide) B.lens, cells := n a2 (by decide) B.cells, bx := n a3 (by decide) B.bx, bl := n a4 (by decide) B.bl, row := fun i h => n (ar i h) (by omega) (B.row i h), ml := n a5 (by decide) B.ml, m0 := upd_same, sl := n a7 (by decide) B.sl, s0 := n a8 (by decide) B.s0, du := n a9 (by decide) B.du, dst := n a10 (by decide) B.dst, tch := n a11 (by decide) B.tch, nmask := hl }
theorem BenchAt.setSlot (B : BenchAt K L S H) (xs : List Int) (hl : xs.length = 4 * S.lanes) : BenchAt K L { S with slot := xs } (upd H L.s0 (.lst (xs.map V.int))) := by
  obtain ⟨t, a0, a1, a2, a3, a4, a5, a6, a7, a8, a9, a10, a11, ar⟩ := B.apart
  have n := fun {a : Addr} {m : Nat} (h : t a = m) (z : m ≠ 8) {o} (q : H a = some o) => (upd_ne (H := H) (o := .lst (xs.map V.int)) (ne_tag h a8 z)).trans q
  exact { B with b := n a0 (by decide) B.b, lens := n a1 (by decide) B.lens, cells := n a2 (by decide) B.cells, bx := n a3 (by decide) B.bx, bl := n a4 (by decide) B.bl, row := fun i h => n (ar i h) (by omega) (B.row i h), ml := n a5 (by decide) B.ml, m0 := n a6 (by decide) B.m0, sl := n a7 (by decide) B.sl, s0 := upd_same, du := n a9 (by decide) B.du, dst := n a10 (by decide) B.dst, tch := n a11 (by decide) B.tch, nslot := hl }
theorem BenchAt.setSpent (B : BenchAt K L S H) (k : Nat) (hk : S.stock = [] ∨ k < S.stock.length) : BenchAt K L { S with spent := k } (upd H L.du (.ins (C_Feed K) L.dudx (F_Feed (.ref L.dst) (.int k)))) := by
  obtain ⟨t, a0, a1, a2, a3, a4, a5, a6, a7, a8, a9, a10, a11, ar⟩ := B.apart
  have n := fun {a : Addr} {m : Nat} (h : t a = m) (z : m ≠ 9) {o} (q : H a = some o) => (upd_ne (H := H) (o := .ins (C_Feed K) L.dudx (F_Feed (.ref L.dst) (.int k))) (ne_tag h a9 z)).trans q
  exact { B with b := n a0 (by decide) B.b, lens := n a1 (by decide) B.lens, cells := n a2 (by decide) B.cells, bx := n a3 (by decide) B.bx, bl := n a4 (by decide) B.bl, row := fun i h => n (ar i h) (by omega) (B.row i h), ml := n a5 (by decide) B.ml, m0 := n a6 (by decide) B.m0, sl := n a7 (by decide) B.sl, s0 := n a8 (by decide) B.s0, du := upd_same, dst := n a10 (by decide) B.dst, tch := n a11 (by decide) B.tch, nspent := hk }
def setRow (f : Nat → List Int) (i : Nat) (xs : List Int) : Nat → List Int := fun j => if j = i then xs else f j
theorem BenchAt.setRow (B : BenchAt K L S H) {i : Nat} (hi : i < 8) (xs : List Int) (hl : xs.length = S.lanes) : BenchAt K L { S with rows := setRow S.rows i xs } (upd H (L.row i) (.lst (xs.map V.int))) := by
  obtain ⟨t, a0, a1, a2, a3, a4, a5, a6, a7, a8, a9, a10, a11, ar⟩ := B.apart
  have n := fun {a : Addr} {m : Nat} (h : t a = m) (z : m ≠ 20 + i) {o} (q : H a = some o) => (upd_ne (H := H) (o := .lst (xs.map V.int)) (ne_tag h (ar i hi) z)).trans q
  refine { B with b := n a0 (by omega) B.b, lens := n a1 (by omega) B.lens, cells := n a2 (by omega) B.cells, bx := n a3 (by omega) B.bx, bl := n a4 (by omega) B.bl, row := fun j h => ?_, ml := n a5 (by omega) B.ml, m0 := n a6 (by omega) B.m0, sl := n a7 (by omega) B.sl, s0 := n a8 (by omega) B.s0, du := n a9 (by omega) B.du, dst := n a10 (by omega) B.dst, tch := n a11 (by omega) B.tch, nrow := fun j h => ?_ }
  · show upd H (L.row i) (.lst (xs.map V.int)) (L.row j) = some (.lst ((Rb.setRow S.rows i xs j).map V.int))
    unfold Rb.setRow
    by_cases e : j = i
    · subst e
      rw [if_pos rfl]
      exact upd_same
    · rw [if_neg e]
      exact n (ar j h) (by omega) (B.row j h)
  · show (Rb.setRow S.rows i xs j).length = S.lanes
    unfold Rb.setRow
    by_cases e : j = i
    · rw [if_pos e]
      exact hl
    · rw [if_neg e]
      exact B.nrow j h
theorem BenchAt.setB (B : BenchAt K L S H) (z : Int) (v : V) : BenchAt K L { S with place := z, now := v } (upd H L.b (.ins (C_Bench K) L.bdx (F_Bench (.ref L.lens) (.ref L.cells) (.int S.lanes) (.ref L.bx) (.ref L.ml) (.ref L.sl) (.ref L.du) (.ref L.pk) (.int z) (.ref L.tch) v .non (.bl false)))) := by
  obtain ⟨t, a0, a1, a2, a3, a4, a5, a6, a7, a8, a9, a10, a11, ar⟩ := B.apart
  have n := fun {a : Addr} {m : Nat} (h : t a = m) (z : m ≠ 0) {o w} (q : H a = some o) => (upd_ne (H := H) (o := w) (ne_tag h a0 z)).trans q
  exact { B with b := upd_same, lens := n a1 (by decide) B.lens, cells := n a2 (by decide) B.cells, bx := n a3 (by decide) B.bx, bl := n a4 (by decide) B.bl, row := fun i h => n (ar i h) (by omega) (B.row i h), ml := n a5 (by decide) B.ml, m0 := n a6 (by decide) B.m0, sl := n a7 (by decide) B.sl, s0 := n a8 (by decide) B.s0, du := n a9 (by decide) B.du, dst := n a10 (by decide) B.dst, tch := n a11 (by decide) B.tch }
/-- an object that is none of the machine's -/
theorem BenchAt.other (B : BenchAt K L S H) {a : Addr} {o : HO} (h : ∀ x, H x ≠ none → x = a → x ≠ L.b ∧ x ≠ L.lens ∧ x ≠ L.cells ∧ x ≠ L.bx ∧ x ≠ L.bl ∧ x ≠ L.ml ∧ x ≠ L.m0 ∧ x ≠ L.sl ∧ x ≠ L.s0 ∧ x ≠ L.du ∧ x ≠ L.dst ∧ x ≠ L.tch ∧ ∀ i, i < 8 → x ≠ L.row i) : BenchAt K L S (upd H a o) := by
  have n := fun {x : Addr} {u : HO} (q : H x = some u) (z : x = a → False) => (upd_ne (H := H) (o := o) (fun e => z e)).trans q
  have f := fun {x : Addr} {u : HO} (q : H x = some u) => h x (by rw [q]; exact fun z => nomatch z)
  exact { B with b := n B.b fun e => (f B.b e).1 rfl, lens := n B.lens fun e => (f B.lens e).2.1 rfl, cells := n B.cells fun e => (f B.cells e).2.2.1 rfl, bx := n B.bx fun e => (f B.bx e).2.2.2.1 rfl, bl := n B.bl fun e => (f B.bl e).2.2.2.2.1 rfl, ml := n B.ml fun e => (f B.ml e).2.2.2.2.2.1 rfl, m0 := n B.m0 fun e => (f B.m0 e).2.2.2.2.2.2.1 rfl, sl := n B.sl fun e => (f B.sl e).2.2.2.2.2.2.2.1 rfl, s0 := n B.s0 fun e => (f B.s0 e).2.2.2.2.2.2.2.2.1 rfl, du := n B.du fun e => (f B.du e).2.2.2.2.2.2.2.2.2.1 rfl, dst := n B.dst fun e => (f B.dst e).2.2.2.2.2.2.2.2.2.2.1 rfl, tch := n B.tch fun e => (f B.tch e).2.2.2.2.2.2.2.2.2.2.2.1 rfl, row := fun i hi => n (B.row i hi) fun e => (f (B.row i hi) e).2.2.2.2.2.2.2.2.2.2.2.2 i hi rfl }
/-- kinds of objects: by them the strip's parts stand apart from the machine's -/
def HO.kd : HO → Nat
  | .lst _ => 0
  | .dK _ => 1
  | .ins _ _ fs => 2 + fs.length
  | _ => 100
theorem kd_ne {H : Hp} {a b : Addr} {o u : HO} (h : H a = some o) (h' : H b = some u) (d : HO.kd o ≠ HO.kd u) : a ≠ b := ne_of h h' fun e => d (by rw [e])
/-- an object of a kind that no part of the machine is -/
theorem BenchAt.otherKd (B : BenchAt K L S H) {a : Addr} {o u : HO} (ha : H a = some u) (h0 : HO.kd u ≠ 0) (h2 : HO.kd u ≠ 4) (h3 : HO.kd u ≠ 15) : BenchAt K L S (upd H a o) :=
  B.other fun x hx e => by
    subst e
    exact ⟨kd_ne ha B.b h3, kd_ne ha B.lens h0, kd_ne ha B.cells h0, kd_ne ha B.bx h2, kd_ne ha B.bl h0, kd_ne ha B.ml h0, kd_ne ha B.m0 h0, kd_ne ha B.sl h0, kd_ne ha B.s0 h0, kd_ne ha B.du h2, kd_ne ha B.dst h0, kd_ne ha B.tch h0, fun i hi => kd_ne ha (B.row i hi) h0⟩
theorem BenchAt.notOwn (B : BenchAt K L S H) {a : Addr} {u : HO} (ha : H a = some u) (h0 : HO.kd u ≠ 0) (h2 : HO.kd u ≠ 4) (h3 : HO.kd u ≠ 15) : ¬ Own L a := by
  rintro (e | e | e | e | e | e | ⟨i, hi, e⟩)
  · exact kd_ne ha B.b h3 e
  · exact kd_ne ha B.cells h0 e
  · exact kd_ne ha B.m0 h0 e
  · exact kd_ne ha B.s0 h0 e
  · exact kd_ne ha B.du h2 e
  · exact kd_ne ha B.tch h0 e
  · exact kd_ne ha (B.row i hi) h0 e
end
/-- the number in a lane of a seat -/
def sv (lanes g : Nat) (rows : Nat → List Int) (seat lane : Nat) : Int := ((rows (seat * g + lane / lanes))[lane % lanes]?).getD 0
/-- the machine's part of the heap may change, all else stays -/
def Fr (L : Lay) (H H' : Hp) : Prop := ∀ a o, H a = some o → ¬ Own L a → H' a = some o
theorem Fr.refl (L : Lay) (H : Hp) : Fr L H H := fun _ _ h _ => h
theorem Fr.trans {L : Lay} {H H1 H2 : Hp} (a : Fr L H H1) (b : Fr L H1 H2) : Fr L H H2 := fun x o h n => b x o (a x o h n) n
theorem Fr.of_same {L : Lay} {H H' : Hp} (e : Same H H') : Fr L H H' := fun a o h _ => e a o h
theorem Fr.upd {L : Lay} {H H' : Hp} {a : Addr} {o : HO} (f : Fr L H H') (h : Own L a) : Fr L H (upd H' a o) := fun x u e n => by
  have hx : x ≠ a := fun z => n (by rw [z]; exact h)
  exact (upd_ne hx).trans (f x u e n)
theorem Fr.new {L : Lay} {H H' : Hp} {p : Addr} {o : HO} (f : Fr L H H') (h : H' p = none) : Fr L H (L2.upd H' p o) := f.trans (Fr.of_same (same_new h))
theorem upd_id {H : Hp} {a : Addr} {o : HO} (h : H a = some o) : upd H a o = H := by
  funext x
  unfold upd
  split
  · rename_i e
    rw [e, h]
  · rfl
end Rb
set_option Elab.async false
set_option linter.all false
set_option maxRecDepth 100000
set_option maxHeartbeats 4000000
/-! feeds and boxes -/
namespace Rb
open PySem PySem.Spec PyProof.Rows L2
/-- the next number of a feed: some number, some place in the stock -/
def spTaken (K : PySem.W.Frag) : Sp := fun vs H Q _ => ∃ (p q dx : Addr) (xs : List Int) (n : Nat), vs = [.ref p] ∧ H p = some (.ins (C_Feed K) dx (F_Feed (.ref q) (.int n))) ∧ H q = some (.lst (xs.map V.int)) ∧ p ≠ q ∧ (xs = [] ∨ n < xs.length) ∧ xs.length ≤ 1000 ∧
  ∀ (z : Int) (m : Nat), (xs = [] ∨ m < xs.length) → Q (.int z) (upd H p (.ins (C_Feed K) dx (F_Feed (.ref q) (.int m))))
def spNumberAt (K : PySem.W.Frag) : Sp := fun vs H Q _ => ∃ (p q dx r : Addr) (L g s l : Nat) (rs xs : List V) (v : V), vs = [.ref p, .int g, .int s, .int l] ∧ H p = some (.ins (C_Boxes K) dx (F_Boxes (.int L) (.ref q))) ∧ H q = some (.lst rs) ∧ 1 ≤ L ∧ L ≤ 16 ∧ g ≤ 4 ∧
  rs[s * g + l / L]? = some (.ref r) ∧ H r = some (.lst xs) ∧ xs[l % L]? = some v ∧ Q v H
def spLay (K : PySem.W.Frag) : Sp := fun vs H Q _ => ∃ (p q dx r : Addr) (L g s l : Nat) (rs xs : List V) (v : V), vs = [.ref p, .int g, .int s, .int l, v] ∧ H p = some (.ins (C_Boxes K) dx (F_Boxes (.int L) (.ref q))) ∧ H q = some (.lst rs) ∧ 1 ≤ L ∧ L ≤ 16 ∧ g ≤ 4 ∧
  rs[s * g + l / L]? = some (.ref r) ∧ H r = some (.lst xs) ∧ l % L < xs.length ∧ Q .non (upd H r (.lst (xs.set (l % L) v)))
theorem box_ix (s g l L : Nat) (hL : 1 ≤ L) : ((s : Int) * (g : Int) + (l : Int).fdiv (L : Int)) = ((s * g + l / L : Nat) : Int) := by
  rw [Int.fdiv_eq_ediv_of_nonneg _ (by omega)]
  push_cast
  rfl
theorem lane_ix (l L : Nat) (hL : 1 ≤ L) : (l : Int).fmod (L : Int) = ((l % L : Nat) : Int) := by
  rw [Int.fmod_eq_emod_of_nonneg _ (by omega)]
  push_cast
  rfl
theorem ixN_nat {n j : Nat} (h : j < n) : ixN n (j : Int) = some j := by
  unfold ixN
  rw [if_pos (by omega), if_pos (by omega)]
  rfl
section
variable {P : Program} {w : World} {K : PySem.W.Frag} {mg : Str → Option Value} {base : Heap}
theorem sc_Feed_taken : FnScope ["self", "number"] ["self"] (defScope s_Feed_taken) := ⟨rfl, rfl, rfl, by decide +kernel, rfl, by decide +kernel, by decide +kernel⟩
theorem bi_Feed_taken {K : PySem.W.Frag} {f : Addr} {fd : FuncData} (F : FunD K "taken" "Feed.taken" (defArgs s_Feed_taken) (defBody s_Feed_taken) (defScope s_Feed_taken) [] [] f fd) : Binds K fd ["self"] [] := F.bindsN fun _ _ _ _ _ _ us hl => match us, hl with | [_], _ => rfl
theorem ok_taken (T : Tx K mg) : Gd P w K mg base CX0 1 (He.fAd K ("Feed", some "taken")) ["self"] [] (spTaken K) := by
  refine gd_mk T.d_Feed_taken sc_Feed_taken (fun F => bn (bi_Feed_taken F)) (fun vs H Q E h => ?_) (fun cdv A outer s H vs Q E hr h => ?_)
  · obtain ⟨_, _, _, _, _, rfl, _⟩ := h
    rfl
  · obtain ⟨p, q, dx, xs, n, rfl, hp, hq, hpq, hn, hx, k⟩ := h
    refine ⟨_, (pss_cons (ps_if (pt_cmpR op_eq (pe_callB call_len_seq (by rfl) T.b_len boot_len (pa_cons (pe_fld (pv 0) rfl) pa_nil)) pe_int (nomark _))
  (pss_one (ps_ret pe_int))
  pss_nil)
  (pss_cons (ps_set (i := 1) sc_Feed_taken.nd rfl (Or.inl rfl) (pe_ix ix_list (pe_fld (pv 0) rfl) (pe_fld (pv 0) rfl) (fun _ _ => rfl)))
  (pss_cons (ps_fldaug (pv 0) pe_int in_add)
  (pss_cons (ps_if (pt_cmpR op_eq (pe_fld (pv 0) rfl) (pe_callB call_len_seq (by rfl) T.b_len boot_len (pa_cons (pe_fld (pv 0) rfl) pa_nil)) (nomark _))
  (pss_one (ps_fld (pv 0) pe_int rfl))
  pss_nil)
  (pss_one (ps_ret (pv 1))))))), ?_⟩
    refine ⟨_, rfl, _, _, _, _, _, rfl, hp, T.c_Feed, T.n_Feed_stock, L_Feed_stock, q, _, rfl, .inl (seql hq), rfl, _, rfl, ?_⟩
    refine ite2 (fun e => ?_) fun e => ?_
    · -- an empty stock
      have hz : xs = [] := by simpa using e
      have k1 := k 0 n hn
      rw [upd_id hp] at k1
      exact k1
    · have hl : n < xs.length := by
        rcases hn with z | z
        · simp [z] at e
        · exact z
      refine ⟨_, rfl, _, _, _, _, _, rfl, hp, T.c_Feed, T.n_Feed_stock, L_Feed_stock, _, rfl, _, _, _, _, _, rfl, hp, T.c_Feed, T.n_Feed_spent, L_Feed_spent, q, _, _, .int (xs[n]), rfl, rfl, seql hq, atI_nat (by simp [hl]), ?_⟩
      refine ⟨_, rfl, _, _, _, _, _, rfl, hp, T.c_Feed, T.n_Feed_spent, L_Feed_spent, _, _, rfl, rfl, _, _, hp, N_Feed, ?_⟩
      rw [P_Feed_spent]
      have h1 : upd H p (.ins (C_Feed K) dx (F_Feed (.ref q) (.int (n + 1 : Int)))) p = _ := upd_same
      have hq1 : upd H p (.ins (C_Feed K) dx (F_Feed (.ref q) (.int (n + 1 : Int)))) q = _ := (upd_ne hpq.symm).trans hq
      refine ⟨_, rfl, _, _, _, _, _, rfl, h1, T.c_Feed, T.n_Feed_spent, L_Feed_spent, _, rfl, _, _, _, _, _, rfl, h1, T.c_Feed, T.n_Feed_stock, L_Feed_stock, q, _, rfl, .inl (seql hq1), rfl, _, rfl, ?_⟩
      refine ite2 (fun e2 => ?_) fun e2 => ?_
      · refine ⟨_, rfl, _, _, _, _, rfl, h1, T.c_Feed, T.n_Feed_spent, N_Feed, ?_⟩
        rw [P_Feed_spent, upd_upd]
        exact ⟨_, rfl, k _ 0 (.inr (by omega))⟩
      · have hl2 : n + 1 < xs.length := by
          have z : ¬ ((n : Int) + 1 = xs.length) := by simpa using e2
          omega
        exact ⟨_, rfl, k _ (n + 1) (.inr hl2)⟩
theorem sc_Boxes_number_at : FnScope ["self", "group", "seat", "lane", "box"] ["self", "group", "seat", "lane"] (defScope s_Boxes_number_at) := ⟨rfl, rfl, rfl, by decide +kernel, rfl, by decide +kernel, by decide +kernel⟩
theorem bi_Boxes_number_at {K : PySem.W.Frag} {f : Addr} {fd : FuncData} (F : FunD K "number_at" "Boxes.number_at" (defArgs s_Boxes_number_at) (defBody s_Boxes_number_at) (defScope s_Boxes_number_at) [] [] f fd) : Binds K fd ["self", "group", "seat", "lane"] [] := F.bindsN fun _ _ _ _ _ _ us hl => match us, hl with | [_, _, _, _], _ => rfl
theorem ok_number_at (T : Tx K mg) : Gd P w K mg base CX0 1 (He.fAd K ("Boxes", some "number_at")) ["self", "group", "seat", "lane"] [] (spNumberAt K) := by
  refine gd_mk T.d_Boxes_number_at sc_Boxes_number_at (fun F => bn (bi_Boxes_number_at F)) (fun vs H Q E h => ?_) (fun cdv A outer s H vs Q E hr h => ?_)
  · obtain ⟨_, _, _, _, _, _, _, _, _, _, _, rfl, _⟩ := h
    rfl
  · obtain ⟨p, q, dx, r, L, g, st, l, rs, xs, v, rfl, hp, hq, hL, hL2, hg, hb, hxr, hv, k⟩ := h
    refine ⟨_, (pss_cons (ps_set (i := 4) sc_Boxes_number_at.nd rfl (Or.inl rfl) (pe_op op_add (pe_op op_mul (pv 2) (pv 1)) (pe_op op_fdivN (pv 3) (pe_fld (pv 0) rfl))))
  (pss_one (ps_ret (pe_ix ix_list (pe_ix ix_list (pe_fld (pv 0) rfl) (pv 4) (fun _ _ => rfl)) (pe_op op_modN (pv 3) (pe_fld (pv 0) rfl)) (fun _ _ => rfl))))), ?_⟩
    have hL0 : (L : Int) ≠ 0 := by omega
    refine ⟨_, rfl, _, rfl, _, _, rfl, rfl, .inr ⟨by omega, by omega⟩, ?_⟩
    refine ⟨_, rfl, _, rfl, _, _, _, _, _, rfl, hp, T.c_Boxes, T.n_Boxes_lanes, L_Boxes_lanes, _, _, rfl, rfl, ⟨hL0, by omega⟩, _, _, rfl, rfl, ?_⟩
    refine ⟨_, rfl, _, _, _, _, _, rfl, hp, T.c_Boxes, T.n_Boxes_boxes, L_Boxes_boxes, _, rfl, q, rs, _, .ref r, rfl, rfl, seql hq, ?_, ?_⟩
    · rw [box_ix st g l L hL]
      exact atI_nat hb
    refine ⟨_, rfl, _, rfl, _, _, _, _, _, rfl, hp, T.c_Boxes, T.n_Boxes_lanes, L_Boxes_lanes, _, _, rfl, rfl, hL0, r, xs, _, v, rfl, rfl, seql hxr, ?_, k⟩
    rw [lane_ix l L hL]
    exact atI_nat hv
theorem sc_Boxes_lay : FnScope ["self", "group", "seat", "lane", "number", "box"] ["self", "group", "seat", "lane", "number"] (defScope s_Boxes_lay) := ⟨rfl, rfl, rfl, by decide +kernel, rfl, by decide +kernel, by decide +kernel⟩
theorem bi_Boxes_lay {K : PySem.W.Frag} {f : Addr} {fd : FuncData} (F : FunD K "lay" "Boxes.lay" (defArgs s_Boxes_lay) (defBody s_Boxes_lay) (defScope s_Boxes_lay) [] [] f fd) : Binds K fd ["self", "group", "seat", "lane", "number"] [] := F.bindsN fun _ _ _ _ _ _ us hl => match us, hl with | [_, _, _, _, _], _ => rfl
theorem ok_lay (T : Tx K mg) : Gd P w K mg base CX0 1 (He.fAd K ("Boxes", some "lay")) ["self", "group", "seat", "lane", "number"] [] (spLay K) := by
  refine gd_mk T.d_Boxes_lay sc_Boxes_lay (fun F => bn (bi_Boxes_lay F)) (fun vs H Q E h => ?_) (fun cdv A outer s H vs Q E hr h => ?_)
  · obtain ⟨_, _, _, _, _, _, _, _, _, _, _, rfl, _⟩ := h
    rfl
  · obtain ⟨p, q, dx, r, L, g, st, l, rs, xs, v, rfl, hp, hq, hL, hL2, hg, hb, hxr, hv, k⟩ := h
    refine ⟨_, (pss_cons (ps_set (i := 5) sc_Boxes_lay.nd rfl (Or.inl rfl) (pe_op op_add (pe_op op_mul (pv 2) (pv 1)) (pe_op op_fdivN (pv 3) (pe_fld (pv 0) rfl))))
  (pss_one (ps_asg (pv 4) (pg_sub (pe_ix ix_list (pe_fld (pv 0) rfl) (pv 5) (fun _ _ => rfl)) (pe_op op_modN (pv 3) (pe_fld (pv 0) rfl)) set_list)))), ?_⟩
    have hL0 : (L : Int) ≠ 0 := by omega
    refine ⟨_, rfl, _, rfl, _, _, rfl, rfl, .inr ⟨by omega, by omega⟩, ?_⟩
    refine ⟨_, rfl, _, rfl, _, _, _, _, _, rfl, hp, T.c_Boxes, T.n_Boxes_lanes, L_Boxes_lanes, _, _, rfl, rfl, ⟨hL0, by omega⟩, _, _, rfl, rfl, ?_⟩
    refine ⟨_, rfl, _, rfl, _, _, _, _, _, rfl, hp, T.c_Boxes, T.n_Boxes_boxes, L_Boxes_boxes, _, rfl, q, rs, _, .ref r, rfl, rfl, seql hq, ?_, ?_⟩
    · rw [box_ix st g l L hL]
      exact atI_nat hb
    refine ⟨_, rfl, _, rfl, _, _, _, _, _, rfl, hp, T.c_Boxes, T.n_Boxes_lanes, L_Boxes_lanes, _, _, rfl, rfl, hL0, r, xs, _, l % L, rfl, rfl, hxr, ?_, k⟩
    rw [lane_ix l L hL]
    exact ixN_nat hv
end
end Rb
set_option Elab.async false
set_option linter.all false
set_option maxRecDepth 100000
set_option maxHeartbeats 4000000
/-! the machine's own readers and writers -/
namespace Rb
open PySem PySem.Spec PyProof.Rows L2
/-- the strip: where it lies, what it holds -/
structure ST where
  n : Addr
  f : Addr
  many : Nat
  g : Nat
  base : Nat
  began : Nat
  width : Nat
  kvs : List (Key × V)
  cut : V
def stripO (K : PySem.W.Frag) (s : ST) (dx : Addr) : HO := .ins (C_Strip K) dx (F_Strip (.int s.many) (.int s.g) (.int s.base) (.int s.began) (.int s.width) (.ref s.f) s.cut)
/-- the machine with a strip -/
structure Mach (K : PySem.W.Frag) (L : Lay) (S : MS) (s : ST) (H : Hp) : Prop where
  b : BenchAt K L S H
  now : S.now = .ref s.n
  n : ∃ dx, H s.n = some (stripO K s dx)
  f : H s.f = some (.dK s.kvs)
  msk : ∀ j, j < s.began → S.mask[j]? = some true
  wb : s.width ≤ s.began
  bg : s.began ≤ s.g * S.lanes
  g1 : 1 ≤ s.g
  g4 : s.g ≤ 4
  mn : s.base + s.began ≤ s.many
  mb : s.many ≤ 400
def Fine (kvs : List (Key × V)) (j : Nat) : Bool := (valV kvs (Sum.inl (j : Int) : Key)).isNone
/-- what the machine's defs may change, with a strip -/
def OwnS (L : Lay) (s : ST) (a : Addr) : Prop := Own L a ∨ a = s.n ∨ a = s.f
def FrS (L : Lay) (s : ST) (H H' : Hp) : Prop := ∀ a o, H a = some o → ¬ OwnS L s a → H' a = some o
theorem FrS.refl (L : Lay) (s : ST) (H : Hp) : FrS L s H H := fun _ _ h _ => h
theorem FrS.trans {L : Lay} {s s' : ST} {H H1 H2 : Hp} (a : FrS L s H H1) (b : FrS L s' H1 H2) (hn : s'.n = s.n) (hf : s'.f = s.f) : FrS L s H H2 := fun x o h n => b x o (a x o h n) (by
  unfold OwnS at n ⊢
  rw [hn, hf]
  exact n)
theorem Fr.s {L : Lay} {s : ST} {H H' : Hp} (f : Fr L H H') : FrS L s H H' := fun a o h n => f a o h fun z => n (.inl z)
section
variable {K : PySem.W.Frag} {L : Lay} {S : MS} {s : ST} {H H' : Hp}
theorem Mach.same (M : Mach K L S s H) (e : Same H H') : Mach K L S s H' := by
  obtain ⟨dx, hn⟩ := M.n
  exact { M with b := M.b.same e, n := ⟨dx, e _ _ hn⟩, f := e _ _ M.f }
theorem Mach.nk (M : Mach K L S s H) {a : Addr} {u o : HO} (ha : H a = some u) (h : HO.kd u ≠ 9) : (upd H a o) s.n = H s.n := by
  obtain ⟨dx, hn⟩ := M.n
  exact upd_ne (kd_ne hn ha fun z => h z.symm)
theorem Mach.fk (M : Mach K L S s H) {a : Addr} {u o : HO} (ha : H a = some u) (h : HO.kd u ≠ 1) : (upd H a o) s.f = H s.f := upd_ne (kd_ne M.f ha fun z => h z.symm)
theorem k09 : (0 : Nat) ≠ 9 := by decide
theorem k01 : (0 : Nat) ≠ 1 := by decide
theorem Mach.touch (M : Mach K L S s H) (ts : List V) : Mach K L { S with touches := ts } s (upd H L.tch (.lst ts)) :=
  { M with b := M.b.setTouches ts, n := by rw [M.nk M.b.tch k09]; exact M.n, f := by rw [M.fk M.b.tch k01]; exact M.f }
theorem Mach.setCells (M : Mach K L S s H) (xs : List Int) : Mach K L { S with cells := xs } s (upd H L.cells (.lst (xs.map V.int))) :=
  { M with b := M.b.setCells xs, n := by rw [M.nk M.b.cells k09]; exact M.n, f := by rw [M.fk M.b.cells k01]; exact M.f }
theorem Mach.setSlot (M : Mach K L S s H) (xs : List Int) (hl : xs.length = 4 * S.lanes) : Mach K L { S with slot := xs } s (upd H L.s0 (.lst (xs.map V.int))) :=
  { M with b := M.b.setSlot xs hl, n := by rw [M.nk M.b.s0 k09]; exact M.n, f := by rw [M.fk M.b.s0 k01]; exact M.f }
theorem Mach.setSpent (M : Mach K L S s H) (k : Nat) (hk : S.stock = [] ∨ k < S.stock.length) : Mach K L { S with spent := k } s (upd H L.du (.ins (C_Feed K) L.dudx (F_Feed (.ref L.dst) (.int k)))) :=
  { M with b := M.b.setSpent k hk, n := by rw [M.nk M.b.du (by show 2 + 2 ≠ 9; decide)]; exact M.n, f := by rw [M.fk M.b.du (by show 2 + 2 ≠ 1; decide)]; exact M.f }
theorem Mach.setRow (M : Mach K L S s H) {i : Nat} (hi : i < 8) (xs : List Int) (hl : xs.length = S.lanes) : Mach K L { S with rows := setRow S.rows i xs } s (upd H (L.row i) (.lst (xs.map V.int))) :=
  { M with b := M.b.setRow hi xs hl, n := by rw [M.nk (M.b.row i hi) k09]; exact M.n, f := by rw [M.fk (M.b.row i hi) k01]; exact M.f }
theorem Mach.setKvs (M : Mach K L S s H) (kvs : List (Key × V)) : Mach K L S { s with kvs := kvs } (upd H s.f (.dK kvs)) := by
  obtain ⟨dx, hn⟩ := M.n
  exact { M with b := M.b.otherKd M.f (show (1 : Nat) ≠ 0 by decide) (show (1 : Nat) ≠ 4 by decide) (show (1 : Nat) ≠ 15 by decide), n := ⟨dx, (upd_ne (kd_ne hn M.f (by show 2 + 7 ≠ 1; decide))).trans hn⟩, f := upd_same }
/-- the strip's own fields -/
theorem Mach.setStrip (M : Mach K L S s H) {dx : Addr} (hn : H s.n = some (stripO K s dx)) (w : Nat) (c : V) (hw : w ≤ s.width) : Mach K L S { s with width := w, cut := c } (upd H s.n (stripO K { s with width := w, cut := c } dx)) := by
  have kn : HO.kd (stripO K s dx) = 9 := rfl
  exact { M with b := M.b.otherKd hn (by rw [kn]; decide) (by rw [kn]; decide) (by rw [kn]; decide), n := ⟨dx, upd_same⟩, f := (upd_ne (kd_ne M.f hn (by rw [kn]; show (1 : Nat) ≠ 9; decide))).trans M.f, wb := Nat.le_trans hw M.wb }
theorem Mach.setPlace (M : Mach K L S s H) (z : Int) : Mach K L { S with place := z } s (upd H L.b (.ins (C_Bench K) L.bdx (F_Bench (.ref L.lens) (.ref L.cells) (.int S.lanes) (.ref L.bx) (.ref L.ml) (.ref L.sl) (.ref L.du) (.ref L.pk) (.int z) (.ref L.tch) S.now .non (.bl false)))) :=
  { M with b := M.b.setB z S.now, n := by rw [M.nk M.b.b (by show 2 + 13 ≠ 9; decide)]; exact M.n, f := by rw [M.fk M.b.b (by show 2 + 13 ≠ 1; decide)]; exact M.f }
end
def spSeat (K : PySem.W.Frag) : Sp := fun vs H Q _ => ∃ (L : Lay) (S : MS) (s : ST) (seat lane : Nat), vs = [.ref L.b, .int seat, .int lane] ∧ Mach K L S s H ∧ seat * s.g + lane / S.lanes < 8 ∧ Q (.int (sv S.lanes s.g S.rows seat lane)) H
def spActive (K : PySem.W.Frag) : Sp := fun vs H Q _ => ∃ (L : Lay) (S : MS) (s : ST) (lane : Nat), vs = [.ref L.b, .int 0, .int lane] ∧ Mach K L S s H ∧ Q (.bl (decide (lane < s.width) && Fine s.kvs lane)) H
/-- the active lanes under mask 0 -/
def acts (s : ST) : List Nat := (List.range s.width).filter fun j => Fine s.kvs j
def spActives (K : PySem.W.Frag) : Sp := fun vs H Q _ => ∃ (L : Lay) (S : MS) (s : ST), vs = [.ref L.b, .int 0] ∧ Mach K L S s H ∧ ∀ p H', H p = none → Same H H' → H' p = some (.lst ((acts s).map fun j => V.int (j : Nat))) → Q (.ref p) H'
def startOf (S : MS) (r : Nat) : Int := (S.lengths.take r).sum
/-- one cell is read -/
def spRead (K : PySem.W.Frag) : Sp := fun vs H Q _ => ∃ (L : Lay) (S : MS) (s : ST) (r : Nat) (at_ : Int) (j : Nat) (v : Int), vs = [.ref L.b, .int r, .int at_] ∧ Mach K L S s H ∧ r ≤ S.lengths.length ∧ startOf S r + at_ = j ∧ S.cells[j]? = some v ∧ S.touches.length < 1000000 ∧
  ∀ H' ts, ts.length = S.touches.length + 1 → Mach K L { S with touches := ts } s H' → Fr L H H' → Q (.int v) H'
def spWrite (K : PySem.W.Frag) : Sp := fun vs H Q _ => ∃ (L : Lay) (S : MS) (s : ST) (r : Nat) (at_ : Int) (j : Nat) (v : Int), vs = [.ref L.b, .int r, .int at_, .int v] ∧ Mach K L S s H ∧ r ≤ S.lengths.length ∧ startOf S r + at_ = j ∧ j < S.cells.length ∧ S.touches.length < 1000000 ∧
  ∀ H' ts, ts.length = S.touches.length + 1 → Mach K L { S with touches := ts, cells := S.cells.set j v } s H' → Fr L H H' → Q .non H'
def spSlotAddr (K : PySem.W.Frag) : Sp := fun vs H Q _ => ∃ (L : Lay) (S : MS) (s : ST) (lane : Nat), vs = [.ref L.b, .int 0, .int lane] ∧ Mach K L S s H ∧ ∀ z : Int, Q (.int z) H
def spReadSlot (K : PySem.W.Frag) : Sp := fun vs H Q _ => ∃ (L : Lay) (S : MS) (s : ST) (lane : Nat) (v : Int), vs = [.ref L.b, .int 0, .int lane] ∧ Mach K L S s H ∧ S.slot[lane]? = some v ∧ S.touches.length < 1000000 ∧
  ∀ H' ts, ts.length = S.touches.length + 1 → Mach K L { S with touches := ts } s H' → Fr L H H' → Q (.int v) H'
def spWriteSlot (K : PySem.W.Frag) : Sp := fun vs H Q _ => ∃ (L : Lay) (S : MS) (s : ST) (lane : Nat) (v : Int), vs = [.ref L.b, .int 0, .int lane, .int v] ∧ Mach K L S s H ∧ lane < S.slot.length ∧ S.touches.length < 1000000 ∧
  ∀ H' ts, ts.length = S.touches.length + 1 → Mach K L { S with touches := ts, slot := S.slot.set lane v } s H' → Fr L H H' → Q .non H'
section
variable {P : Program} {w : World} {K : PySem.W.Frag} {mg : Str → Option Value} {base : Heap}
theorem sc_seat_number : FnScope ["bench", "seat", "lane"] ["bench", "seat", "lane"] (defScope s_seat_number) := ⟨rfl, rfl, rfl, by decide +kernel, rfl, by decide +kernel, by decide +kernel⟩
theorem bi_seat_number {K : PySem.W.Frag} {f : Addr} {fd : FuncData} (F : FunD K "seat_number" "seat_number" (defArgs s_seat_number) (defBody s_seat_number) (defScope s_seat_number) [] [] f fd) : Binds K fd ["bench", "seat", "lane"] [] := F.bindsN fun _ _ _ _ _ _ us hl => match us, hl with | [_, _, _], _ => rfl
theorem ok_seat_number (T : Tx K mg) : Gd P w K mg base CX0 2 (He.fAd K ("seat_number", none)) ["bench", "seat", "lane"] [] (spSeat K) := by
  obtain ⟨fd_Boxes_number_at, G_Boxes_number_at, p_Boxes_number_at, ds_Boxes_number_at, v_Boxes_number_at, b_Boxes_number_at⟩ := ok_number_at (P := P) (w := w) (base := base) T
  refine gd_mk T.d_seat_number sc_seat_number (fun F => bn (bi_seat_number F)) (fun vs H Q E h => ?_) (fun cdv A outer s H vs Q E hr h => ?_)
  · obtain ⟨_, _, _, _, _, rfl, _⟩ := h
    rfl
  · obtain ⟨L, S, t, seat, lane, rfl, M, hb, k⟩ := h
    have B := M.b
    have B0 := B.b
    rw [M.now] at B0
    obtain ⟨ndx, hs⟩ := M.n
    refine ⟨_, (pss_one (ps_ret (pe_meth (pe_fld (pv 0) rfl) T.c_Boxes T.m_Boxes_number_at G_Boxes_number_at (hr.mono (by decide)) b_Boxes_number_at v_Boxes_number_at pass0 (pa_cons (pe_fld (pe_fld (pv 0) rfl) rfl) (pa_cons (pv 1) (pa_cons (pv 2) pa_nil)))))), ?_⟩
    refine ⟨_, rfl, _, _, _, _, _, rfl, B0, T.c_Bench, T.n_Bench_boxes, L_Bench_boxes, L.bx, _, _, rfl, B.bx, by kernel_rfl, _, rfl, _, _, _, _, _, rfl, B0, T.c_Bench, T.n_Bench_now, L_Bench_now, _, _, _, _, _, rfl, hs, T.c_Strip, T.n_Strip_group, L_Strip_group, _, rfl, _, rfl, ?_⟩
    have hl := B.nlanes
    have hz : lane % S.lanes < (S.rows (seat * t.g + lane / S.lanes)).length := by
      rw [B.nrow _ hb]
      exact Nat.mod_lt _ (by omega)
    refine ⟨L.bx, L.bl, L.bxdx, L.row (seat * t.g + lane / S.lanes), S.lanes, t.g, seat, lane, rowsV L, (S.rows (seat * t.g + lane / S.lanes)).map V.int, _, rfl, B.bx, B.bl, hl.1, hl.2, M.g4, rowsV_at L hb, B.row _ hb, ?_, k⟩
    unfold sv
    rw [List.getElem?_map, List.getElem?_eq_getElem hz]
    rfl
theorem sc_lane_active : FnScope ["bench", "mask", "lane"] ["bench", "mask", "lane"] (defScope s_lane_active) := ⟨rfl, rfl, rfl, by decide +kernel, rfl, by decide +kernel, by decide +kernel⟩
theorem bi_lane_active {K : PySem.W.Frag} {f : Addr} {fd : FuncData} (F : FunD K "lane_active" "lane_active" (defArgs s_lane_active) (defBody s_lane_active) (defScope s_lane_active) [] [] f fd) : Binds K fd ["bench", "mask", "lane"] [] := F.bindsN fun _ _ _ _ _ _ us hl => match us, hl with | [_, _, _], _ => rfl
theorem ok_lane_active (T : Tx K mg) : Gd P w K mg base CX0 1 (He.fAd K ("lane_active", none)) ["bench", "mask", "lane"] [] (spActive K) := by
  refine gd_mk T.d_lane_active sc_lane_active (fun F => bn (bi_lane_active F)) (fun vs H Q E h => ?_) (fun cdv A outer s H vs Q E hr h => ?_)
  · obtain ⟨_, _, _, _, rfl, _⟩ := h
    rfl
  · obtain ⟨L, S, t, lane, rfl, M, k⟩ := h
    have hu := hu_of hr
    have B := M.b
    have B0 := B.b
    rw [M.now] at B0
    obtain ⟨ndx, hs⟩ := M.n
    refine ⟨_, (pss_cons (ps_if (PW.pt (pw_or (pt_cmpR op_ge (pv 2) (pe_fld (pe_fld (pv 0) rfl) rfl) (nomark _)) (pw_or1 (pt_cmp (pc_din hu (pv 2) (pe_fld (pe_fld (pv 0) rfl) rfl))))))
  (pss_one (ps_ret pe_bl))
  pss_nil)
  (pss_one (ps_ret (pe_ix ix_list (pe_ix ix_list (pe_fld (pv 0) rfl) (pv 1) (fun _ _ => rfl)) (pv 2) (fun _ _ => rfl))))), ?_⟩
    refine ⟨_, rfl, _, rfl, _, _, _, _, _, rfl, B0, T.c_Bench, T.n_Bench_now, L_Bench_now, _, _, _, _, _, rfl, hs, T.c_Strip, T.n_Strip_width, L_Strip_width, _, _, rfl, rfl, _, rfl, ?_⟩
    by_cases e : t.width ≤ lane
    · have e1 : decide (lane < t.width) = false := decide_eq_false (by omega)
      rw [e1] at k
      have e2 : decide ((t.width : Int) ≤ (lane : Int)) = true := decide_eq_true (by omega)
      rw [e2]
      refine iteT (iteT ?_)
      exact k
    · have e1 : decide (lane < t.width) = true := decide_eq_true (by omega)
      rw [e1] at k
      have e2 : decide ((t.width : Int) ≤ (lane : Int)) = false := decide_eq_false (by omega)
      rw [e2]
      refine iteF ?_
      refine ⟨_, rfl, _, rfl, _, _, _, _, _, rfl, B0, T.c_Bench, T.n_Bench_now, L_Bench_now, _, _, _, _, _, rfl, hs, T.c_Strip, T.n_Strip_faults, L_Strip_faults, t.f, _, rfl, DGet.k (k := Sum.inl (lane : Int)) M.f, _, rfl, ?_⟩
      unfold Fine at k
      cases q : valV t.kvs (Sum.inl (lane : Int) : Key) with
      | some v =>
        rw [q] at k
        refine iteT ?_
        exact k
      | none =>
        rw [q] at k
        refine iteF ?_
        refine ⟨_, rfl, _, _, _, _, _, rfl, B0, T.c_Bench, T.n_Bench_masks, L_Bench_masks, _, rfl, L.ml, L.mlv, _, .ref L.m0, rfl, rfl, seql B.ml, ?_, _, rfl, L.m0, S.mask.map V.bl, _, .bl true, rfl, rfl, seql B.m0, ?_, k⟩
        · exact atI_nat (j := 0) B.mlv
        · refine atI_nat ?_
          rw [List.getElem?_map, M.msk lane (by have := M.wb; omega)]
          rfl
theorem sc_active_lanes : FnScope ["bench", "mask", "lane"] ["bench", "mask"] (defScope s_active_lanes) := ⟨rfl, rfl, rfl, by decide +kernel, rfl, by decide +kernel, by decide +kernel⟩
theorem bi_active_lanes {K : PySem.W.Frag} {f : Addr} {fd : FuncData} (F : FunD K "active_lanes" "active_lanes" (defArgs s_active_lanes) (defBody s_active_lanes) (defScope s_active_lanes) [] [] f fd) : Binds K fd ["bench", "mask"] [] := F.bindsN fun _ _ _ _ _ _ us hl => match us, hl with | [_, _], _ => rfl
theorem ok_active_lanes (T : Tx K mg) : Gd P w K mg base CX0 2 (He.fAd K ("active_lanes", none)) ["bench", "mask"] [] (spActives K) := by
  obtain ⟨fd_lane_active, G_lane_active, p_lane_active, ds_lane_active, v_lane_active, b_lane_active⟩ := ok_lane_active (P := P) (w := w) (base := base) T
  refine gd_mk T.d_active_lanes sc_active_lanes (fun F => bn (bi_active_lanes F)) (fun vs H Q E h => ?_) (fun cdv A outer s H vs Q E hr h => ?_)
  · obtain ⟨_, _, _, rfl, _⟩ := h
    rfl
  · obtain ⟨L, S, t, rfl, M, k⟩ := h
    have B := M.b
    have B0 := B.b
    rw [M.now] at B0
    obtain ⟨ndx, hs⟩ := M.n
    refine ⟨_, (pss_one (ps_ret (pe_lc (own := [("lane", 2)]) (g := gName 2) (by rfl) sc_active_lanes.nd (pi_range1 rfl T.b_range (pa_cons (pe_fld (pe_fld (pv 0) rfl) rfl) pa_nil)) (blkOk_by (own := [("lane", 2)]) (N := ["bench", "mask", "lane"]) (sc := defScope s_active_lanes) (by decide +kernel)) (fun _ _ _ _ _ => pg_name (i := 2) sc_active_lanes.nd rfl (Or.inl rfl)) (fun _ _ _ _ _ => (pts_one (pt_val (pe_call G_lane_active (hr.mono (by decide)) rfl T.g_lane_active p_lane_active b_lane_active v_lane_active pass0 (pa_cons (pv 0) (pa_cons (pv 1) (pa_cons (pv 2) pa_nil))))))) (fun _ _ _ _ _ => (pv 2))))), ?_⟩
    have hw : t.width ≤ 400 := by have := M.wb; have := M.mn; have := M.mb; omega
    refine ⟨_, rfl, _, _, _, _, _, rfl, B0, T.c_Bench, T.n_Bench_now, L_Bench_now, _, _, _, _, _, rfl, hs, T.c_Strip, T.n_Strip_width, L_Strip_width, _, rfl, by omega, by omega, fun D hD => lc_range (lo := 0) (n := t.width) (fun i H2 => ∃ l, l = ((List.range i).filter fun j => Fine t.kvs j) ∧ Same H H2 ∧ H2 D = some (.lst (l.map fun j => V.int (j : Nat)))) ?_ ?_ ?_⟩
    · exact ⟨[], rfl, same_new hD, upd_same⟩
    · rintro i H2 hi ⟨l, rfl, e, hl⟩
      refine ⟨rfl, ?_⟩
      refine ⟨_, rfl, _, rfl, _, rfl, ?_⟩
      refine ⟨L, S, t, i, ?_, M.same e, ?_⟩
      · simp
      refine ⟨_, rfl, ?_⟩
      rw [decide_eq_true hi, Bool.true_and]
      cases q : Fine t.kvs i with
      | true =>
        refine iteT ⟨_, rfl, _, hl, ?_, ?_⟩
        · rw [List.length_map]
          refine Nat.lt_of_le_of_lt (List.length_filter_le _ _) ?_
          rw [List.length_range]
          exact small1000 (by omega)
        · refine ⟨_, rfl, fun b o z => ?_, ?_⟩
          · rw [upd_ne (ne_of_none z hD)]
            exact e _ _ z
          · rw [upd_same, List.range_succ, List.filter_append, List.map_append]
            simp [q]
      | false =>
        refine iteF ⟨_, rfl, e, ?_⟩
        rw [hl, List.range_succ, List.filter_append]
        simp [q]
    · rintro H2 ⟨l, rfl, e, hl⟩
      exact k D H2 hD e hl
end
end Rb
set_option Elab.async false
set_option linter.all false
set_option maxRecDepth 100000
set_option maxHeartbeats 4000000
/-! cells and slots read and written -/
namespace Rb
open PySem PySem.Spec PyProof.Rows L2
theorem szT {n : Nat} (h : n < 1000000) : n < sizeLine := by
  rw [sizeLine_eq]
  omega
theorem atI_of {α : Type} {xs : List α} {z : Int} {j : Nat} {v : α} (e : z = (j : Int)) (h : xs[j]? = some v) : atI xs z = some v := by
  rw [e]
  exact atI_nat h
theorem ixN_of {n j : Nat} {z : Int} (e : z = (j : Int)) (h : j < n) : ixN n z = some j := by
  rw [e]
  exact ixN_nat h
section
variable {P : Program} {w : World} {K : PySem.W.Frag} {mg : Str → Option Value} {base : Heap}
theorem sc_read_cell : FnScope ["bench", "row", "at", "address"] ["bench", "row", "at"] (defScope s_read_cell) := ⟨rfl, rfl, rfl, by decide +kernel, rfl, by decide +kernel, by decide +kernel⟩
theorem bi_read_cell {K : PySem.W.Frag} {f : Addr} {fd : FuncData} (F : FunD K "read_cell" "read_cell" (defArgs s_read_cell) (defBody s_read_cell) (defScope s_read_cell) [] [] f fd) : Binds K fd ["bench", "row", "at"] [] := F.bindsN fun _ _ _ _ _ _ us hl => match us, hl with | [_, _, _], _ => rfl
theorem ok_read_cell (T : Tx K mg) : Gd P w K mg base CX0 2 (He.fAd K ("read_cell", none)) ["bench", "row", "at"] [] (spRead K) := by
  obtain ⟨fd_start_of, G_start_of, p_start_of, ds_start_of, v_start_of, b_start_of⟩ := ok_start_of (P := P) (w := w) (base := base) T
  refine gd_mk T.d_read_cell sc_read_cell (fun F => bn (bi_read_cell F)) (fun vs H Q E h => ?_) (fun cdv A outer s H vs Q E hr h => ?_)
  · obtain ⟨_, _, _, _, _, _, _, rfl, _⟩ := h
    rfl
  · obtain ⟨L, S, t, r, z, j, v, rfl, M, hr0, hj, hv, hts, k⟩ := h
    refine ⟨_, (pss_cons (ps_set (i := 3) sc_read_cell.nd rfl (Or.inl rfl) (pe_op op_add (pe_call G_start_of (hr.mono (by decide)) rfl T.g_start_of p_start_of b_start_of v_start_of pass0 (pa_cons (pe_fld (pv 0) rfl) (pa_cons (pv 1) pa_nil))) (pv 2)))
  (pss_cons (ps_expr (pe_bm PySem.F.plainAttrs_list PySem.F.slot_list_append PySem.F.type_list_append mt_append (pe_fld (pv 0) rfl) (pa_cons (pe_tup (pa_cons (pe_fld (pv 0) rfl) (pa_cons pe_str (pa_cons (pv 3) pa_nil)))) pa_nil)))
  (pss_one (ps_ret (pe_ix ix_list (pe_fld (pv 0) rfl) (pv 3) (fun _ _ => rfl)))))), ?_⟩
    refine ⟨_, rfl, _, _, _, _, _, rfl, M.b.b, T.c_Bench, T.n_Bench_lengths, L_Bench_lengths, _, rfl, L.lens, S.lengths, r, rfl, seql M.b.lens, hr0, fun H1 e1 => ?_⟩
    have M1 := M.same e1
    refine ⟨_, rfl, _, _, rfl, rfl, ?_⟩
    refine ⟨_, rfl, _, _, _, _, _, rfl, M1.b.b, T.c_Bench, T.n_Bench_touches, L_Bench_touches, .inl ⟨rfl, _, .inl (.inl M1.b.tch)⟩, _, rfl, _, _, _, _, _, rfl, M1.b.b, T.c_Bench, T.n_Bench_place, L_Bench_place, _, rfl, (by show 3 ≤ sizeLine; decide), fun p hp => ?_⟩
    have e2 := same_new (o := .tup [.int S.place, .str "read", .int ((S.lengths.take r).sum + z)]) hp
    have M2 := M1.same e2
    refine ⟨L.tch, S.touches, _, rfl, rfl, M2.b.tch, szT hts, ?_⟩
    have M3 := M2.touch (S.touches ++ [.ref p])
    have f3 : Fr L H _ := ((Fr.of_same e1).trans (Fr.of_same e2)).upd (o := .lst (S.touches ++ [.ref p])) (.inr (.inr (.inr (.inr (.inr (.inl rfl))))))
    refine ⟨_, rfl, _, _, _, _, _, rfl, M3.b.b, T.c_Bench, T.n_Bench_cells, L_Bench_cells, _, rfl, L.cells, _, _, .int v, rfl, rfl, seql M3.b.cells, ?_, k _ _ (by simp) M3 f3⟩
    refine atI_of (j := j) hj ?_
    rw [List.getElem?_map, hv]
    rfl
theorem sc_write_cell : FnScope ["bench", "row", "at", "number", "address"] ["bench", "row", "at", "number"] (defScope s_write_cell) := ⟨rfl, rfl, rfl, by decide +kernel, rfl, by decide +kernel, by decide +kernel⟩
theorem bi_write_cell {K : PySem.W.Frag} {f : Addr} {fd : FuncData} (F : FunD K "write_cell" "write_cell" (defArgs s_write_cell) (defBody s_write_cell) (defScope s_write_cell) [] [] f fd) : Binds K fd ["bench", "row", "at", "number"] [] := F.bindsN fun _ _ _ _ _ _ us hl => match us, hl with | [_, _, _, _], _ => rfl
theorem ok_write_cell (T : Tx K mg) : Gd P w K mg base CX0 2 (He.fAd K ("write_cell", none)) ["bench", "row", "at", "number"] [] (spWrite K) := by
  obtain ⟨fd_start_of, G_start_of, p_start_of, ds_start_of, v_start_of, b_start_of⟩ := ok_start_of (P := P) (w := w) (base := base) T
  refine gd_mk T.d_write_cell sc_write_cell (fun F => bn (bi_write_cell F)) (fun vs H Q E h => ?_) (fun cdv A outer s H vs Q E hr h => ?_)
  · obtain ⟨_, _, _, _, _, _, _, rfl, _⟩ := h
    rfl
  · obtain ⟨L, S, t, r, z, j, v, rfl, M, hr0, hj, hv, hts, k⟩ := h
    refine ⟨_, (pss_cons (ps_set (i := 4) sc_write_cell.nd rfl (Or.inl rfl) (pe_op op_add (pe_call G_start_of (hr.mono (by decide)) rfl T.g_start_of p_start_of b_start_of v_start_of pass0 (pa_cons (pe_fld (pv 0) rfl) (pa_cons (pv 1) pa_nil))) (pv 2)))
  (pss_cons (ps_expr (pe_bm PySem.F.plainAttrs_list PySem.F.slot_list_append PySem.F.type_list_append mt_append (pe_fld (pv 0) rfl) (pa_cons (pe_tup (pa_cons (pe_fld (pv 0) rfl) (pa_cons pe_str (pa_cons (pv 4) pa_nil)))) pa_nil)))
  (pss_one (ps_asg (pv 3) (pg_sub (pe_fld (pv 0) rfl) (pv 4) set_list))))), ?_⟩
    refine ⟨_, rfl, _, _, _, _, _, rfl, M.b.b, T.c_Bench, T.n_Bench_lengths, L_Bench_lengths, _, rfl, L.lens, S.lengths, r, rfl, seql M.b.lens, hr0, fun H1 e1 => ?_⟩
    have M1 := M.same e1
    refine ⟨_, rfl, _, _, rfl, rfl, ?_⟩
    refine ⟨_, rfl, _, _, _, _, _, rfl, M1.b.b, T.c_Bench, T.n_Bench_touches, L_Bench_touches, .inl ⟨rfl, _, .inl (.inl M1.b.tch)⟩, _, rfl, _, _, _, _, _, rfl, M1.b.b, T.c_Bench, T.n_Bench_place, L_Bench_place, _, rfl, (by show 3 ≤ sizeLine; decide), fun p hp => ?_⟩
    have e2 := same_new (o := .tup [.int S.place, .str "write", .int ((S.lengths.take r).sum + z)]) hp
    have M2 := M1.same e2
    refine ⟨L.tch, S.touches, _, rfl, rfl, M2.b.tch, szT hts, ?_⟩
    have M3 := M2.touch (S.touches ++ [.ref p])
    have f3 : Fr L H _ := ((Fr.of_same e1).trans (Fr.of_same e2)).upd (o := .lst (S.touches ++ [.ref p])) (.inr (.inr (.inr (.inr (.inr (.inl rfl))))))
    refine ⟨_, rfl, _, rfl, _, _, _, _, _, rfl, M3.b.b, T.c_Bench, T.n_Bench_cells, L_Bench_cells, _, rfl, L.cells, _, _, j, rfl, rfl, M3.b.cells, ixN_of hj (by simpa using hv), ?_⟩
    have M4 := M3.setCells (S.cells.set j v)
    rw [List.map_set] at M4
    exact k _ _ (by simp) M4 (f3.upd (.inr (.inl rfl)))
theorem sc_slot_address : FnScope ["bench", "slot", "lane"] ["bench", "slot", "lane"] (defScope s_slot_address) := ⟨rfl, rfl, rfl, by decide +kernel, rfl, by decide +kernel, by decide +kernel⟩
theorem bi_slot_address {K : PySem.W.Frag} {f : Addr} {fd : FuncData} (F : FunD K "slot_address" "slot_address" (defArgs s_slot_address) (defBody s_slot_address) (defScope s_slot_address) [] [] f fd) : Binds K fd ["bench", "slot", "lane"] [] := F.bindsN fun _ _ _ _ _ _ us hl => match us, hl with | [_, _, _], _ => rfl
theorem ok_slot_address (T : Tx K mg) : Gd P w K mg base CX0 1 (He.fAd K ("slot_address", none)) ["bench", "slot", "lane"] [] (spSlotAddr K) := by
  refine gd_mk T.d_slot_address sc_slot_address (fun F => bn (bi_slot_address F)) (fun vs H Q E h => ?_) (fun cdv A outer s H vs Q E hr h => ?_)
  · obtain ⟨_, _, _, _, rfl, _⟩ := h
    rfl
  · obtain ⟨L, S, t, lane, rfl, M, k⟩ := h
    refine ⟨_, (pss_one (ps_ret (pe_op op_add (pe_op op_add (pe_callB call_len_seq (by rfl) T.b_len boot_len (pa_cons (pe_fld (pv 0) rfl) pa_nil)) (pe_op op_mul (pe_op op_mul (pv 1) pe_int) (pe_fld (pv 0) rfl))) (pv 2)))), ?_⟩
    have hl := M.b.nlanes
    exact ⟨_, rfl, _, _, _, _, _, rfl, M.b.b, T.c_Bench, T.n_Bench_cells, L_Bench_cells, L.cells, _, rfl, .inl (seql M.b.cells), _, rfl, _, _, rfl, rfl, .inl ⟨by decide, by decide⟩, _, rfl, _, _, _, _, _, rfl, M.b.b, T.c_Bench, T.n_Bench_lanes, L_Bench_lanes, _, _, rfl, rfl, .inl ⟨by decide, by decide⟩, _, _, rfl, rfl, _, rfl, _, _, rfl, rfl, k _⟩
theorem sc_read_slot : FnScope ["bench", "slot", "lane"] ["bench", "slot", "lane"] (defScope s_read_slot) := ⟨rfl, rfl, rfl, by decide +kernel, rfl, by decide +kernel, by decide +kernel⟩
theorem bi_read_slot {K : PySem.W.Frag} {f : Addr} {fd : FuncData} (F : FunD K "read_slot" "read_slot" (defArgs s_read_slot) (defBody s_read_slot) (defScope s_read_slot) [] [] f fd) : Binds K fd ["bench", "slot", "lane"] [] := F.bindsN fun _ _ _ _ _ _ us hl => match us, hl with | [_, _, _], _ => rfl
theorem ok_read_slot (T : Tx K mg) : Gd P w K mg base CX0 2 (He.fAd K ("read_slot", none)) ["bench", "slot", "lane"] [] (spReadSlot K) := by
  obtain ⟨fd_slot_address, G_slot_address, p_slot_address, ds_slot_address, v_slot_address, b_slot_address⟩ := ok_slot_address (P := P) (w := w) (base := base) T
  refine gd_mk T.d_read_slot sc_read_slot (fun F => bn (bi_read_slot F)) (fun vs H Q E h => ?_) (fun cdv A outer s H vs Q E hr h => ?_)
  · obtain ⟨_, _, _, _, _, rfl, _⟩ := h
    rfl
  · obtain ⟨L, S, t, lane, v, rfl, M, hv, hts, k⟩ := h
    refine ⟨_, (pss_cons (ps_expr (pe_bm PySem.F.plainAttrs_list PySem.F.slot_list_append PySem.F.type_list_append mt_append (pe_fld (pv 0) rfl) (pa_cons (pe_tup (pa_cons (pe_fld (pv 0) rfl) (pa_cons pe_str (pa_cons (pe_call G_slot_address (hr.mono (by decide)) rfl T.g_slot_address p_slot_address b_slot_address v_slot_address pass0 (pa_cons (pv 0) (pa_cons (pv 1) (pa_cons (pv 2) pa_nil)))) pa_nil)))) pa_nil)))
  (pss_one (ps_ret (pe_ix ix_list (pe_ix ix_list (pe_fld (pv 0) rfl) (pv 1) (fun _ _ => rfl)) (pv 2) (fun _ _ => rfl))))), ?_⟩
    refine ⟨_, rfl, _, _, _, _, _, rfl, M.b.b, T.c_Bench, T.n_Bench_touches, L_Bench_touches, .inl ⟨rfl, _, .inl (.inl M.b.tch)⟩, _, rfl, _, _, _, _, _, rfl, M.b.b, T.c_Bench, T.n_Bench_place, L_Bench_place, _, rfl, _, rfl, _, rfl, L, S, t, lane, rfl, M, fun z => ⟨(by show 3 ≤ sizeLine; decide), fun p hp => ?_⟩⟩
    have e2 := same_new (o := .tup [.int S.place, .str "read", .int z]) hp
    have M2 := M.same e2
    refine ⟨L.tch, S.touches, _, rfl, rfl, M2.b.tch, szT hts, ?_⟩
    have M3 := M2.touch (S.touches ++ [.ref p])
    have f3 : Fr L H _ := (Fr.of_same e2).upd (o := .lst (S.touches ++ [.ref p])) (.inr (.inr (.inr (.inr (.inr (.inl rfl))))))
    refine ⟨_, rfl, _, _, _, _, _, rfl, M3.b.b, T.c_Bench, T.n_Bench_slots, L_Bench_slots, _, rfl, L.sl, _, _, .ref L.s0, rfl, rfl, seql M3.b.sl, atI_nat (j := 0) M3.b.slv, _, rfl, L.s0, _, _, .int v, rfl, rfl, seql M3.b.s0, atI_nat ?_, k _ _ (by simp) M3 f3⟩
    rw [List.getElem?_map, hv]
    rfl
theorem sc_write_slot : FnScope ["bench", "slot", "lane", "number"] ["bench", "slot", "lane", "number"] (defScope s_write_slot) := ⟨rfl, rfl, rfl, by decide +kernel, rfl, by decide +kernel, by decide +kernel⟩
theorem bi_write_slot {K : PySem.W.Frag} {f : Addr} {fd : FuncData} (F : FunD K "write_slot" "write_slot" (defArgs s_write_slot) (defBody s_write_slot) (defScope s_write_slot) [] [] f fd) : Binds K fd ["bench", "slot", "lane", "number"] [] := F.bindsN fun _ _ _ _ _ _ us hl => match us, hl with | [_, _, _, _], _ => rfl
theorem ok_write_slot (T : Tx K mg) : Gd P w K mg base CX0 2 (He.fAd K ("write_slot", none)) ["bench", "slot", "lane", "number"] [] (spWriteSlot K) := by
  obtain ⟨fd_slot_address, G_slot_address, p_slot_address, ds_slot_address, v_slot_address, b_slot_address⟩ := ok_slot_address (P := P) (w := w) (base := base) T
  refine gd_mk T.d_write_slot sc_write_slot (fun F => bn (bi_write_slot F)) (fun vs H Q E h => ?_) (fun cdv A outer s H vs Q E hr h => ?_)
  · obtain ⟨_, _, _, _, _, rfl, _⟩ := h
    rfl
  · obtain ⟨L, S, t, lane, v, rfl, M, hv, hts, k⟩ := h
    refine ⟨_, (pss_cons (ps_expr (pe_bm PySem.F.plainAttrs_list PySem.F.slot_list_append PySem.F.type_list_append mt_append (pe_fld (pv 0) rfl) (pa_cons (pe_tup (pa_cons (pe_fld (pv 0) rfl) (pa_cons pe_str (pa_cons (pe_call G_slot_address (hr.mono (by decide)) rfl T.g_slot_address p_slot_address b_slot_address v_slot_address pass0 (pa_cons (pv 0) (pa_cons (pv 1) (pa_cons (pv 2) pa_nil)))) pa_nil)))) pa_nil)))
  (pss_one (ps_asg (pv 3) (pg_sub (pe_ix ix_list (pe_fld (pv 0) rfl) (pv 1) (fun _ _ => rfl)) (pv 2) set_list)))), ?_⟩
    refine ⟨_, rfl, _, _, _, _, _, rfl, M.b.b, T.c_Bench, T.n_Bench_touches, L_Bench_touches, .inl ⟨rfl, _, .inl (.inl M.b.tch)⟩, _, rfl, _, _, _, _, _, rfl, M.b.b, T.c_Bench, T.n_Bench_place, L_Bench_place, _, rfl, _, rfl, _, rfl, L, S, t, lane, rfl, M, fun z => ⟨(by show 3 ≤ sizeLine; decide), fun p hp => ?_⟩⟩
    have e2 := same_new (o := .tup [.int S.place, .str "write", .int z]) hp
    have M2 := M.same e2
    refine ⟨L.tch, S.touches, _, rfl, rfl, M2.b.tch, szT hts, ?_⟩
    have M3 := M2.touch (S.touches ++ [.ref p])
    have f3 : Fr L H _ := (Fr.of_same e2).upd (o := .lst (S.touches ++ [.ref p])) (.inr (.inr (.inr (.inr (.inr (.inl rfl))))))
    refine ⟨_, rfl, _, rfl, _, _, _, _, _, rfl, M3.b.b, T.c_Bench, T.n_Bench_slots, L_Bench_slots, _, rfl, L.sl, _, _, .ref L.s0, rfl, rfl, seql M3.b.sl, atI_nat (j := 0) M3.b.slv, _, rfl, L.s0, _, _, lane, rfl, rfl, M3.b.s0, ixN_nat (by simpa using hv), ?_⟩
    have M4 := M3.setSlot (S.slot.set lane v) (by simpa using M3.b.nslot)
    rw [List.map_set] at M4
    exact k _ _ (by simp) M4 (f3.upd (.inr (.inr (.inr (.inl rfl)))))
end
end Rb
set_option Elab.async false
set_option linter.all false
set_option maxRecDepth 100000
set_option maxHeartbeats 4000000
/-! plain facts: seats and lanes, faults -/
namespace Rb
open PySem PySem.Spec PyProof.Rows L2
theorem div_lt_g {l g n : Nat} (h : l < g * n) (hn : 1 ≤ n) : l / n < g := Nat.div_lt_of_lt_mul (by rw [Nat.mul_comm]; exact h)
theorem seat_lt {p g l n : Nat} (hp : (p + 1) * g ≤ 8) (h : l < g * n) (hn : 1 ≤ n) : p * g + l / n < 8 := by
  have h1 := div_lt_g h hn
  rw [Nat.add_mul, Nat.one_mul] at hp
  omega
theorem seat_inj {p q g a b : Nat} (ha : a < g) (hb : b < g) (h : q * g + a = p * g + b) : q = p ∧ a = b := by
  have h1 : (q * g + a) / g = q := by
    rw [Nat.mul_comm, Nat.mul_add_div (by omega), Nat.div_eq_of_lt ha]
    rfl
  have h2 : (p * g + b) / g = p := by
    rw [Nat.mul_comm, Nat.mul_add_div (by omega), Nat.div_eq_of_lt hb]
    rfl
  have e : q = p := by rw [← h1, h, h2]
  subst e
  exact ⟨rfl, by omega⟩
theorem sv_set {n g : Nat} {rows : Nat → List Int} {p q l k : Nat} {v : Int} (hn : 1 ≤ n) (hl : l < g * n) (hk : k < g * n) (hr : (rows (p * g + l / n)).length = n) :
    sv n g (setRow rows (p * g + l / n) ((rows (p * g + l / n)).set (l % n) v)) q k = if q = p ∧ k = l then v else sv n g rows q k := by
  unfold sv setRow
  by_cases e : q * g + k / n = p * g + l / n
  · rw [if_pos e]
    obtain ⟨e1, e2⟩ := seat_inj (div_lt_g hk hn) (div_lt_g hl hn) e
    subst e1
    by_cases e3 : k % n = l % n
    · have e4 : k = l := by
        have := Nat.div_add_mod k n
        have := Nat.div_add_mod l n
        rw [e2, e3] at *
        omega
      subst e4
      rw [if_pos ⟨rfl, rfl⟩, List.getElem?_set_self (by rw [hr]; exact Nat.mod_lt _ hn)]
      rfl
    · rw [if_neg (fun z => e3 (by rw [z.2])), List.getElem?_set_ne (Ne.symm e3), e2]
  · rw [if_neg e, if_neg (fun z => e (by rw [z.1, z.2]))]
theorem putK_le {κ : Type} [DecidableEq κ] (kvs : List (κ × V)) (k : κ) (v : V) : (putK kvs k v).length ≤ kvs.length + 1 := by
  unfold putK
  split
  · rw [List.length_map]
    omega
  · rw [List.length_append]
    exact Nat.le_refl _
theorem inl_ne {i j : Nat} (h : i ≠ j) : ¬ ((Sum.inl (i : Int) : Key) = Sum.inl (j : Int)) := fun e => h (by injection e with e; omega)
end Rb
set_option Elab.async false
set_option linter.all false
set_option maxRecDepth 100000
set_option maxHeartbeats 4000000
/-! what a step gets on a lane -/
namespace Rb
open PySem PySem.Spec PyProof.Rows L2
/-- the steps of the strips that are made here (mask 0, slot 0) -/
inductive Stp where
  | number (p : Nat) (n : Int)
  | load (p r : Nat)
  | spread (p r : Nat)
  | gather (p q r : Nat)
  | op (p : Nat) (s : Str) (q r : Nat)
  | copy (p q : Nat)
  | bring (p : Nat)
  | save (p : Nat)
def Stp.v : Stp → List V
  | .number p n => [.str "number", .int p, .int n, .int 0]
  | .load p r => [.str "load", .int p, .int r, .int 0]
  | .spread p r => [.str "spread", .int p, .int r, .int 0]
  | .gather p q r => [.str "gather", .int p, .int q, .int r, .int 0]
  | .op p s q r => [.str "op", .int p, .str s, .int q, .int r, .int 0]
  | .copy p q => [.str "copy", .int p, .int q, .int 0]
  | .bring p => [.str "bring", .int p, .int 0, .int 0]
  | .save p => [.str "save", .int 0, .int p, .int 0]
def cellAt (S : MS) (z : Int) : Int := (S.cells[z.toNat]?).getD 0
def doneE (s : Str) (l r : Int) : Except Str Int := if s = "+" then .ok (kp (l + r)) else if r = 0 then .error "nought" else .ok (kp (l.fdiv r))
def got (S : MS) (t : ST) (spr : Int) : Stp → Nat → Except Str Int
  | .number _ n, _ => .ok n
  | .load _ r, l => .ok (cellAt S (startOf S r + ((t.base : Int) + (l : Int))))
  | .spread _ _, _ => .ok spr
  | .gather _ q r, l => if 0 ≤ sv S.lanes t.g S.rows q l ∧ sv S.lanes t.g S.rows q l < (S.lengths[r]?).getD 0 then .ok (cellAt S (startOf S r + sv S.lanes t.g S.rows q l)) else .error "outside"
  | .op _ s q r, l => doneE s (sv S.lanes t.g S.rows q l) (sv S.lanes t.g S.rows r l)
  | .copy _ q, l => .ok (sv S.lanes t.g S.rows q l)
  | .bring _, l => .ok ((S.slot[l]?).getD 0)
  | .save _, _ => .ok 0
theorem got_gather {S : MS} {t : ST} {spr : Int} {p q r l : Nat} : got S t spr (.gather p q r) l = if 0 ≤ sv S.lanes t.g S.rows q l ∧ sv S.lanes t.g S.rows q l < (S.lengths[r]?).getD 0 then .ok (cellAt S (startOf S r + sv S.lanes t.g S.rows q l)) else .error "outside" := rfl
theorem got_op {S : MS} {t : ST} {spr : Int} {p q r l : Nat} {s : Str} : got S t spr (.op p s q r) l = doneE s (sv S.lanes t.g S.rows q l) (sv S.lanes t.g S.rows r l) := rfl
theorem done_add (l r : Int) : doneE "+" l r = .ok (kp (l + r)) := if_pos rfl
theorem sne : ¬ (("/" : Str) = "+") := by decide +kernel
theorem done_div0 {l r : Int} (h : r = 0) : doneE "/" l r = .error "nought" := by
  unfold doneE
  rw [if_neg sne, if_pos h]
theorem done_div {l r : Int} (h : r ≠ 0) : doneE "/" l r = .ok (kp (l.fdiv r)) := by
  unfold doneE
  rw [if_neg sne, if_neg h]
def InCells (S : MS) (z : Int) : Prop := ∃ j : Nat, z = j ∧ j < S.cells.length
/-- what a lane must bear -/
def LaneOk (S : MS) (t : ST) : Stp → Nat → Prop
  | .load _ r, l => r ≤ S.lengths.length ∧ InCells S (startOf S r + ((t.base : Int) + (l : Int)))
  | .gather _ q r, l => (q + 1) * t.g ≤ 8 ∧ r < S.lengths.length ∧ (0 ≤ sv S.lanes t.g S.rows q l → sv S.lanes t.g S.rows q l < (S.lengths[r]?).getD 0 → InCells S (startOf S r + sv S.lanes t.g S.rows q l))
  | .op _ s q r, l => (q + 1) * t.g ≤ 8 ∧ (r + 1) * t.g ≤ 8 ∧ (s = "+" ∨ s = "/" ∧ -(2 ^ 63) ≤ sv S.lanes t.g S.rows r l ∧ sv S.lanes t.g S.rows r l < 2 ^ 63)
  | .copy _ q, _ => (q + 1) * t.g ≤ 8
  | .save _, _ => False
  | _, _ => True
def gotV : Except Str Int → List V
  | .ok n => [.int n, .non]
  | .error f => [.int 0, .str f]
theorem cell_of {S : MS} {z : Int} (h : InCells S z) : ∃ j : Nat, z = j ∧ S.cells[j]? = some (cellAt S z) := by
  obtain ⟨j, rfl, hj⟩ := h
  refine ⟨j, rfl, ?_⟩
  unfold cellAt
  rw [Int.toNat_natCast, List.getElem?_eq_getElem hj]
  rfl
/-- what a call may leave: a few touches more -/
def spGot (K : PySem.W.Frag) (pre : Stp → Prop) : Sp := fun vs H Q _ => ∃ (L : Lay) (S : MS) (t : ST) (a : Addr) (st : Stp) (l : Nat), vs = [.ref L.b, .ref a, .int l] ∧ pre st ∧ H a = some (.tup st.v) ∧ Mach K L S t H ∧ LaneOk S t st l ∧ l < t.g * S.lanes ∧ S.touches.length < 1000000 ∧
  ∀ H' ts p, ts.length ≤ S.touches.length + 1 → Mach K L { S with touches := ts } t H' → Fr L H H' → H' p = some (.tup (gotV (got S t 0 st l))) → Q (.ref p) H'
def spLaneGot (K : PySem.W.Frag) : Sp := fun vs H Q _ => ∃ (L : Lay) (S : MS) (t : ST) (a : Addr) (st : Stp) (l : Nat) (spr : Int), vs = [.ref L.b, .ref a, .int l, .int spr] ∧ H a = some (.tup st.v) ∧ Mach K L S t H ∧ LaneOk S t st l ∧ l < t.g * S.lanes ∧ S.touches.length < 1000000 ∧
  ∀ H' ts p, ts.length ≤ S.touches.length + 1 → Mach K L { S with touches := ts } t H' → Fr L H H' → H' p = some (.tup (gotV (got S t spr st l))) → Q (.ref p) H'
/-- a spread's number: where a lane is active the row's cell 0 -/
def spSpread (K : PySem.W.Frag) : Sp := fun vs H Q _ => ∃ (L : Lay) (S : MS) (t : ST) (a : Addr) (st : Stp), vs = [.ref L.b, .ref a] ∧ H a = some (.tup st.v) ∧ Mach K L S t H ∧ S.touches.length < 1000000 ∧ (∀ p r, st = .spread p r → r ≤ S.lengths.length ∧ InCells S (startOf S r + 0)) ∧
  ∀ H' ts (z : Int), ts.length ≤ S.touches.length + 1 → Mach K L { S with touches := ts } t H' → Fr L H H' → (∀ p r l, st = .spread p r → l < t.width → Fine t.kvs l = true → z = cellAt S (startOf S r + 0)) → Q (.int z) H'
theorem acts_none {t : ST} (h : ¬ (0 : Int) < ((acts t).map fun j => V.int (j : Nat)).length) {l : Nat} (hl : l < t.width) (hf : Fine t.kvs l = true) : False := by
  have h1 : l ∈ acts t := List.mem_filter.mpr ⟨List.mem_range.mpr hl, hf⟩
  have h2 := List.length_pos_of_mem h1
  rw [List.length_map] at h
  omega
section
variable {P : Program} {w : World} {K : PySem.W.Frag} {mg : Str → Option Value} {base : Heap}
theorem sc_spread_read : FnScope ["bench", "step"] ["bench", "step"] (defScope s_spread_read) := ⟨rfl, rfl, rfl, by decide +kernel, rfl, by decide +kernel, by decide +kernel⟩
theorem bi_spread_read {K : PySem.W.Frag} {f : Addr} {fd : FuncData} (F : FunD K "spread_read" "spread_read" (defArgs s_spread_read) (defBody s_spread_read) (defScope s_spread_read) [] [] f fd) : Binds K fd ["bench", "step"] [] := F.bindsN fun _ _ _ _ _ _ us hl => match us, hl with | [_, _], _ => rfl
theorem ok_spread_read (T : Tx K mg) : Gd P w K mg base CX0 3 (He.fAd K ("spread_read", none)) ["bench", "step"] [] (spSpread K) := by
  obtain ⟨fd_active_lanes, G_active_lanes, p_active_lanes, ds_active_lanes, v_active_lanes, b_active_lanes⟩ := ok_active_lanes (P := P) (w := w) (base := base) T
  obtain ⟨fd_read_cell, G_read_cell, p_read_cell, ds_read_cell, v_read_cell, b_read_cell⟩ := ok_read_cell (P := P) (w := w) (base := base) T
  refine gd_mk T.d_spread_read sc_spread_read (fun F => bn (bi_spread_read F)) (fun vs H Q E h => ?_) (fun cdv A outer s H vs Q E hr h => ?_)
  · obtain ⟨_, _, _, _, _, rfl, _⟩ := h
    rfl
  · obtain ⟨L, S, t, a, st, rfl, ha, M, hts, hsp, k⟩ := h
    refine ⟨_, (pss_cons (ps_if (PW.pt (pw_and (pt_cmpR op_eq (pe_ix ix_tup (pv 1) pe_int (fun _ _ => rfl)) pe_str (nomark _)) (pw_and1 (pt_cmpR op_gt (pe_callB call_len_seq (by rfl) T.b_len boot_len (pa_cons (pe_call G_active_lanes (hr.mono (by decide)) rfl T.g_active_lanes p_active_lanes b_active_lanes v_active_lanes pass0 (pa_cons (pv 0) (pa_cons (pe_ix ix_tup (pv 1) pe_int (fun _ _ => rfl)) pa_nil))) pa_nil)) pe_int (nomark _)))))
  (pss_one (ps_ret (pe_call G_read_cell (hr.mono (by decide)) rfl T.g_read_cell p_read_cell b_read_cell v_read_cell pass0 (pa_cons (pv 0) (pa_cons (pe_ix ix_tup (pv 1) pe_int (fun _ _ => rfl)) (pa_cons pe_int pa_nil))))))
  pss_nil)
  (pss_one (ps_ret pe_int))), ?_⟩
    have no : (∀ p r, st ≠ .spread p r) → Q (.int 0) H := fun hn => k H S.touches 0 (Nat.le_succ _) M (Fr.refl L H) fun p r l e _ _ => (hn p r e).elim
    cases st with
    | spread p r =>
      obtain ⟨hr0, hc⟩ := hsp p r rfl
      refine ⟨_, rfl, a, _, _, .str "spread", rfl, rfl, seqt ha, rfl, rfl, _, rfl, iteT ?_⟩
      refine ⟨_, rfl, _, rfl, a, _, _, .int 0, rfl, rfl, seqt ha, rfl, L, S, t, rfl, M, fun p1 H1 hp1 e1 hl1 => ?_⟩
      refine ⟨p1, _, rfl, .inl (seql hl1), _, _, rfl, rfl, _, rfl, ?_⟩
      have M1 := M.same e1
      by_cases hz : (0 : Int) < ((acts t).map fun j => V.int (j : Nat)).length
      · rw [decide_eq_true hz]
        obtain ⟨j, ej, hj⟩ := cell_of hc
        refine iteT ⟨_, rfl, _, rfl, a, _, _, .int r, rfl, rfl, seqt (e1 _ _ ha), rfl, L, S, t, r, 0, j, _, rfl, M1, hr0, ej, hj, hts, fun H2 ts2 l2 M2 f2 => ?_⟩
        exact k H2 ts2 _ (by omega) M2 ((Fr.of_same e1).trans f2) fun p r l e _ _ => by
          injection e with e1 e2
          subst e1 e2
          rfl
      · rw [decide_eq_false hz]
        refine iteF ?_
        exact k H1 S.touches 0 (Nat.le_succ _) M1 (Fr.of_same e1) fun p r l _ h1 h2 => (acts_none hz h1 h2).elim
    | _ =>
      refine ⟨_, rfl, a, _, _, _, rfl, rfl, seqt ha, rfl, rfl, _, rfl, iteF (iteF ?_)⟩
      exact no fun _ _ e => nomatch e
theorem sc_gather_got : FnScope ["bench", "step", "lane", "at"] ["bench", "step", "lane"] (defScope s_gather_got) := ⟨rfl, rfl, rfl, by decide +kernel, rfl, by decide +kernel, by decide +kernel⟩
theorem bi_gather_got {K : PySem.W.Frag} {f : Addr} {fd : FuncData} (F : FunD K "gather_got" "gather_got" (defArgs s_gather_got) (defBody s_gather_got) (defScope s_gather_got) [] [] f fd) : Binds K fd ["bench", "step", "lane"] [] := F.bindsN fun _ _ _ _ _ _ us hl => match us, hl with | [_, _, _], _ => rfl
theorem ok_gather_got (T : Tx K mg) : Gd P w K mg base CX0 3 (He.fAd K ("gather_got", none)) ["bench", "step", "lane"] [] (spGot K fun st => ∃ p q r, st = .gather p q r) := by
  obtain ⟨fd_seat_number, G_seat_number, p_seat_number, ds_seat_number, v_seat_number, b_seat_number⟩ := ok_seat_number (P := P) (w := w) (base := base) T
  obtain ⟨fd_read_cell, G_read_cell, p_read_cell, ds_read_cell, v_read_cell, b_read_cell⟩ := ok_read_cell (P := P) (w := w) (base := base) T
  refine gd_mk T.d_gather_got sc_gather_got (fun F => bn (bi_gather_got F)) (fun vs H Q E h => ?_) (fun cdv A outer s H vs Q E hr h => ?_)
  · obtain ⟨_, _, _, _, _, _, rfl, _⟩ := h
    rfl
  · obtain ⟨L, S, t, a, _, l, rfl, ⟨p, q, r, rfl⟩, ha, M, hok, hl, hts, k⟩ := h
    obtain ⟨hq, hr1, hc⟩ := hok
    refine ⟨_, (pss_cons (ps_set (i := 3) sc_gather_got.nd rfl (Or.inl rfl) (pe_call G_seat_number (hr.mono (by decide)) rfl T.g_seat_number p_seat_number b_seat_number v_seat_number pass0 (pa_cons (pv 0) (pa_cons (pe_ix ix_tup (pv 1) pe_int (fun _ _ => rfl)) (pa_cons (pv 2) pa_nil)))))
  (pss_cons (ps_if (pt_chain op_le op_lt pe_int (pv 3) (pe_ix ix_list (pe_fld (pv 0) rfl) (pe_ix ix_tup (pv 1) pe_int (fun _ _ => rfl)) (fun _ _ => rfl)))
  (pss_one (ps_ret (pe_tup (pa_cons (pe_call G_read_cell (hr.mono (by decide)) rfl T.g_read_cell p_read_cell b_read_cell v_read_cell pass0 (pa_cons (pv 0) (pa_cons (pe_ix ix_tup (pv 1) pe_int (fun _ _ => rfl)) (pa_cons (pv 3) pa_nil)))) (pa_cons pe_non pa_nil)))))
  pss_nil)
  (pss_one (ps_ret (pe_tup (pa_cons pe_int (pa_cons pe_str pa_nil))))))), ?_⟩
    have ln := M.b.nlanes
    refine ⟨_, rfl, _, rfl, a, _, _, .int q, rfl, rfl, seqt ha, rfl, _, rfl, L, S, t, q, l, rfl, M, seat_lt hq hl ln.1, ?_⟩
    have hlen : S.lengths[r]? = some ((S.lengths[r]?).getD 0) := by
      rw [List.getElem?_eq_getElem hr1]
      rfl
    have last : ∀ x : Int, ¬ (0 ≤ x ∧ x < (S.lengths[r]?).getD 0) → x = sv S.lanes t.g S.rows q l → ∀ p', H p' = none → Q (.ref p') (upd H p' (.tup [.int 0, .str "outside"])) := fun x hx ex p' hp' => by
      refine k _ S.touches p' (Nat.le_succ _) (M.same (same_new hp')) (Fr.of_same (same_new hp')) ?_
      rw [upd_same]
      rw [got_gather, if_neg (by rw [← ex]; exact hx)]
      rfl
    refine ⟨_, rfl, _, _, rfl, rfl, _, rfl, ?_⟩
    by_cases h0 : 0 ≤ sv S.lanes t.g S.rows q l
    · rw [decide_eq_true h0]
      refine iteT ⟨_, rfl, _, _, _, _, _, rfl, M.b.b, T.c_Bench, T.n_Bench_lengths, L_Bench_lengths, _, rfl, a, _, _, .int r, rfl, rfl, seqt ha, rfl, L.lens, _, _, .int ((S.lengths[r]?).getD 0), rfl, rfl, seql M.b.lens, atI_nat (by rw [List.getElem?_map, hlen]; rfl), _, _, rfl, rfl, _, rfl, ?_⟩
      by_cases h1 : sv S.lanes t.g S.rows q l < (S.lengths[r]?).getD 0
      · rw [decide_eq_true h1]
        refine iteT ?_
        obtain ⟨j, ej, hj⟩ := cell_of (hc h0 h1)
        refine ⟨_, rfl, _, rfl, a, _, _, .int r, rfl, rfl, seqt ha, rfl, _, rfl, L, S, t, r, _, j, _, rfl, M, Nat.le_of_lt hr1, ej, hj, hts, fun H1 ts1 e1 M1 f1 => ?_⟩
        refine ⟨(by show 2 ≤ sizeLine; decide), fun p' hp' => ?_⟩
        refine k _ ts1 p' (by omega) (M1.same (same_new hp')) (f1.new hp') ?_
        rw [upd_same]
        rw [got_gather, if_pos ⟨h0, h1⟩]
        rfl
      · rw [decide_eq_false h1]
        exact iteF ⟨(by show 2 ≤ sizeLine; decide), fun p' hp' => last _ (fun z => h1 z.2) rfl p' hp'⟩
    · rw [decide_eq_false h0]
      exact iteF ⟨_, rfl, iteF ⟨(by show 2 ≤ sizeLine; decide), fun p' hp' => last _ (fun z => h0 z.1) rfl p' hp'⟩⟩
theorem sc_op_got : FnScope ["bench", "step", "lane", "left", "right", "number", "fault"] ["bench", "step", "lane"] (defScope s_op_got) := ⟨rfl, rfl, rfl, by decide +kernel, rfl, by decide +kernel, by decide +kernel⟩
theorem bi_op_got {K : PySem.W.Frag} {f : Addr} {fd : FuncData} (F : FunD K "op_got" "op_got" (defArgs s_op_got) (defBody s_op_got) (defScope s_op_got) [] [] f fd) : Binds K fd ["bench", "step", "lane"] [] := F.bindsN fun _ _ _ _ _ _ us hl => match us, hl with | [_, _, _], _ => rfl
theorem ok_op_got (T : Tx K mg) : Gd P w K mg base CX0 4 (He.fAd K ("op_got", none)) ["bench", "step", "lane"] [] (spGot K fun st => ∃ p s q r, st = .op p s q r) := by
  obtain ⟨fd_seat_number, G_seat_number, p_seat_number, ds_seat_number, v_seat_number, b_seat_number⟩ := ok_seat_number (P := P) (w := w) (base := base) T
  obtain ⟨fd_done, G_done, p_done, ds_done, v_done, b_done⟩ := ok_done (P := P) (w := w) (base := base) T
  cases v_done
  refine gd_mk T.d_op_got sc_op_got (fun F => bn (bi_op_got F)) (fun vs H Q E h => ?_) (fun cdv A outer s H vs Q E hr h => ?_)
  · obtain ⟨_, _, _, _, _, _, rfl, _⟩ := h
    rfl
  · obtain ⟨L, S, t, a, _, l, rfl, ⟨p, sg, q, r, rfl⟩, ha, M, hok, hl, hts, k⟩ := h
    obtain ⟨hq, hr1, hc⟩ := hok
    refine ⟨_, (pss_cons (ps_set (i := 3) sc_op_got.nd rfl (Or.inl rfl) (pe_call G_seat_number (hr.mono (by decide)) rfl T.g_seat_number p_seat_number b_seat_number v_seat_number pass0 (pa_cons (pv 0) (pa_cons (pe_ix ix_tup (pv 1) pe_int (fun _ _ => rfl)) (pa_cons (pv 2) pa_nil)))))
  (pss_cons (ps_set (i := 4) sc_op_got.nd rfl (Or.inl rfl) (pe_call G_seat_number (hr.mono (by decide)) rfl T.g_seat_number p_seat_number b_seat_number v_seat_number pass0 (pa_cons (pv 0) (pa_cons (pe_ix ix_tup (pv 1) pe_int (fun _ _ => rfl)) (pa_cons (pv 2) pa_nil)))))
  (pss_cons (ps_set (i := 5) sc_op_got.nd rfl (Or.inl rfl) pe_int)
  (pss_cons (ps_try_onlyE (pss_one (ps_set (i := 6) sc_op_got.nd rfl (Or.inl rfl) pe_non)) rfl rfl ⟨rfl, by decide, .inl T.g_ByNought⟩ takes0 (fun W pn xe tk _ => (pss_one (ps_set (i := 5) sc_op_got.nd rfl (Or.inl rfl) (pe_callS G_done (hr.mono (by decide)) rfl T.g_done p_done b_done (fun σ => passAt tk σ) (pa_cons (pe_ix (show IxR _ (rIxT K) from ix_tup) (pv 1) pe_int (fun _ _ => rfl)) (pa_cons (pv 3) (pa_cons (pv 4) pa_nil))))))) (fun a oe cls d pn _ _ => (pss_one (ps_set (i := 6) sc_op_got.nd rfl (Or.inl rfl) pe_str))))
  (pss_one (ps_ret (pe_tup (pa_cons (pv 5) (pa_cons (pv 6) pa_nil))))))))), ?_⟩
    have ln := M.b.nlanes
    refine ⟨_, rfl, _, rfl, a, _, _, .int q, rfl, rfl, seqt ha, rfl, _, rfl, L, S, t, q, l, rfl, M, seat_lt hq hl ln.1, ?_⟩
    refine ⟨_, rfl, _, rfl, a, _, _, .int r, rfl, rfl, seqt ha, rfl, _, rfl, L, S, t, r, l, rfl, M, seat_lt hr1 hl ln.1, ?_⟩
    refine ⟨_, rfl, a, _, _, .str sg, rfl, rfl, seqt ha, rfl, _, rfl, _, rfl, sg, _, _, rfl, ?_⟩
    rcases hc with rfl | ⟨rfl, h1, h2⟩
    · refine .inl ⟨rfl, _, rfl, _, rfl, (by show 2 ≤ sizeLine; decide), fun p' hp' => ?_⟩
      refine k _ S.touches p' (Nat.le_succ _) (M.same (same_new hp')) (Fr.of_same (same_new hp')) ?_
      rw [upd_same, got_op, done_add]
      rfl
    · refine .inr ⟨rfl, h1, h2, fun e0 => ?_, fun e0 H1 e1 => ?_⟩
      · refine ⟨true, T.y_ByNought, fun _ x hx => ?_, fun q => nomatch q⟩
        refine ⟨_, rfl, _, rfl, (by show 2 ≤ sizeLine; decide), fun p' hp' => ?_⟩
        refine k _ S.touches p' (Nat.le_succ _) (M.same (same_new hp')) (Fr.of_same (same_new hp')) ?_
        rw [upd_same, got_op, done_div0 e0]
        rfl
      · refine ⟨_, rfl, _, rfl, (by show 2 ≤ sizeLine; decide), fun p' hp' => ?_⟩
        refine k _ S.touches p' (Nat.le_succ _) ((M.same e1).same (same_new hp')) ((Fr.of_same e1).new hp') ?_
        rw [upd_same, got_op, done_div e0]
        rfl
theorem sc_lane_got : FnScope ["bench", "step", "lane", "spread", "word", "element"] ["bench", "step", "lane", "spread"] (defScope s_lane_got) := ⟨rfl, rfl, rfl, by decide +kernel, rfl, by decide +kernel, by decide +kernel⟩
theorem bi_lane_got {K : PySem.W.Frag} {f : Addr} {fd : FuncData} (F : FunD K "lane_got" "lane_got" (defArgs s_lane_got) (defBody s_lane_got) (defScope s_lane_got) [] [] f fd) : Binds K fd ["bench", "step", "lane", "spread"] [] := F.bindsN fun _ _ _ _ _ _ us hl => match us, hl with | [_, _, _, _], _ => rfl
theorem ok_lane_got (T : Tx K mg) : Gd P w K mg base CX0 5 (He.fAd K ("lane_got", none)) ["bench", "step", "lane", "spread"] [] (spLaneGot K) := by
  obtain ⟨fd_seat_number, G_seat_number, p_seat_number, ds_seat_number, v_seat_number, b_seat_number⟩ := ok_seat_number (P := P) (w := w) (base := base) T
  obtain ⟨fd_read_cell, G_read_cell, p_read_cell, ds_read_cell, v_read_cell, b_read_cell⟩ := ok_read_cell (P := P) (w := w) (base := base) T
  obtain ⟨fd_read_slot, G_read_slot, p_read_slot, ds_read_slot, v_read_slot, b_read_slot⟩ := ok_read_slot (P := P) (w := w) (base := base) T
  obtain ⟨fd_gather_got, G_gather_got, p_gather_got, ds_gather_got, v_gather_got, b_gather_got⟩ := ok_gather_got (P := P) (w := w) (base := base) T
  obtain ⟨fd_op_got, G_op_got, p_op_got, ds_op_got, v_op_got, b_op_got⟩ := ok_op_got (P := P) (w := w) (base := base) T
  refine gd_mk T.d_lane_got sc_lane_got (fun F => bn (bi_lane_got F)) (fun vs H Q E h => ?_) (fun cdv A outer s H vs Q E hr h => ?_)
  · obtain ⟨_, _, _, _, _, _, _, rfl, _⟩ := h
    rfl
  · obtain ⟨L, S, t, a, st, l, spr, rfl, ha, M, hok, hl, hts, k⟩ := h
    refine ⟨_, (pss_cons (ps_set (i := 4) sc_lane_got.nd rfl (Or.inl rfl) (pe_ix ix_tup (pv 1) pe_int (fun _ _ => rfl)))
  (pss_cons (ps_set (i := 5) sc_lane_got.nd rfl (Or.inl rfl) (pe_op op_add (pe_fld (pe_fld (pv 0) rfl) rfl) (pv 2)))
  (pss_cons (ps_if (pt_cmpR op_eq (pv 4) pe_str (nomark _))
  (pss_one (ps_ret (pe_call G_gather_got (hr.mono (by decide)) rfl T.g_gather_got p_gather_got b_gather_got v_gather_got pass0 (pa_cons (pv 0) (pa_cons (pv 1) (pa_cons (pv 2) pa_nil))))))
  pss_nil)
  (pss_cons (ps_if (pt_cmpR op_eq (pv 4) pe_str (nomark _))
  (pss_one (ps_ret (pe_call G_op_got (hr.mono (by decide)) rfl T.g_op_got p_op_got b_op_got v_op_got pass0 (pa_cons (pv 0) (pa_cons (pv 1) (pa_cons (pv 2) pa_nil))))))
  pss_nil)
  (pss_cons (ps_if (pt_cmpR op_eq (pv 4) pe_str (nomark _))
  (pss_one (ps_ret (pe_tup (pa_cons (pe_ix ix_tup (pv 1) pe_int (fun _ _ => rfl)) (pa_cons pe_non pa_nil)))))
  pss_nil)
  (pss_cons (ps_if (pt_cmpR op_eq (pv 4) pe_str (nomark _))
  (pss_one ps_never)
  pss_nil)
  (pss_cons (ps_if (pt_cmpR op_eq (pv 4) pe_str (nomark _))
  (pss_one (ps_ret (pe_tup (pa_cons (pe_call G_read_cell (hr.mono (by decide)) rfl T.g_read_cell p_read_cell b_read_cell v_read_cell pass0 (pa_cons (pv 0) (pa_cons (pe_ix ix_tup (pv 1) pe_int (fun _ _ => rfl)) (pa_cons (pv 5) pa_nil)))) (pa_cons pe_non pa_nil)))))
  pss_nil)
  (pss_cons (ps_if (pt_cmpR op_eq (pv 4) pe_str (nomark _))
  (pss_one (ps_ret (pe_tup (pa_cons (pv 3) (pa_cons pe_non pa_nil)))))
  pss_nil)
  (pss_cons (ps_if (pt_cmpR op_eq (pv 4) pe_str (nomark _))
  (pss_one ps_never)
  pss_nil)
  (pss_cons (ps_if (pt_cmpR op_eq (pv 4) pe_str (nomark _))
  (pss_one ps_never)
  pss_nil)
  (pss_cons (ps_if (pt_cmpR op_eq (pv 4) pe_str (nomark _))
  (pss_one (ps_ret (pe_tup (pa_cons (pe_call G_seat_number (hr.mono (by decide)) rfl T.g_seat_number p_seat_number b_seat_number v_seat_number pass0 (pa_cons (pv 0) (pa_cons (pe_ix ix_tup (pv 1) pe_int (fun _ _ => rfl)) (pa_cons (pv 2) pa_nil)))) (pa_cons pe_non pa_nil)))))
  pss_nil)
  (pss_one (ps_ret (pe_tup (pa_cons (pe_call G_read_slot (hr.mono (by decide)) rfl T.g_read_slot p_read_slot b_read_slot v_read_slot pass0 (pa_cons (pv 0) (pa_cons (pe_ix ix_tup (pv 1) pe_int (fun _ _ => rfl)) (pa_cons (pv 2) pa_nil)))) (pa_cons pe_non pa_nil)))))))))))))))), ?_⟩
    have ln := M.b.nlanes
    have B0 := M.b.b
    rw [M.now] at B0
    obtain ⟨ndx, hs⟩ := M.n
    -- a tuple of a number and None
    have fin : ∀ (z : Int) (H1 : Hp) (ts1 : List V), ts1.length ≤ S.touches.length + 1 → Mach K L { S with touches := ts1 } t H1 → Fr L H H1 → got S t spr st l = .ok z → ∀ p', H1 p' = none → Q (.ref p') (upd H1 p' (.tup [.int z, .non])) := fun z H1 ts1 e1 M1 f1 eg p' hp' => by
      refine k _ ts1 p' e1 (M1.same (same_new hp')) (f1.new hp') ?_
      rw [upd_same, eg]
      rfl
    cases st with
    | gather p q r =>
      refine ⟨_, rfl, a, _, _, .str "gather", rfl, rfl, seqt ha, rfl, _, rfl, _, _, _, _, _, rfl, B0, T.c_Bench, T.n_Bench_now, L_Bench_now, _, _, _, _, _, rfl, hs, T.c_Strip, T.n_Strip_base, L_Strip_base, _, rfl, _, _, rfl, rfl, ?_⟩
      refine ⟨_, rfl, rfl, _, rfl, iteT ?_⟩
      exact ⟨_, rfl, _, rfl, _, rfl, L, S, t, a, _, l, rfl, ⟨p, q, r, rfl⟩, ha, M, hok, hl, hts, k⟩
    | op p sg q r =>
      refine ⟨_, rfl, a, _, _, .str "op", rfl, rfl, seqt ha, rfl, _, rfl, _, _, _, _, _, rfl, B0, T.c_Bench, T.n_Bench_now, L_Bench_now, _, _, _, _, _, rfl, hs, T.c_Strip, T.n_Strip_base, L_Strip_base, _, rfl, _, _, rfl, rfl, ?_⟩
      iterate 1 (refine ⟨_, rfl, rfl, _, rfl, iteF ?_⟩)
      refine ⟨_, rfl, rfl, _, rfl, iteT ?_⟩
      exact ⟨_, rfl, _, rfl, _, rfl, L, S, t, a, _, l, rfl, ⟨p, sg, q, r, rfl⟩, ha, M, hok, hl, hts, k⟩
    | number p n =>
      refine ⟨_, rfl, a, _, _, .str "number", rfl, rfl, seqt ha, rfl, _, rfl, _, _, _, _, _, rfl, B0, T.c_Bench, T.n_Bench_now, L_Bench_now, _, _, _, _, _, rfl, hs, T.c_Strip, T.n_Strip_base, L_Strip_base, _, rfl, _, _, rfl, rfl, ?_⟩
      iterate 2 (refine ⟨_, rfl, rfl, _, rfl, iteF ?_⟩)
      refine ⟨_, rfl, rfl, _, rfl, iteT ?_⟩
      exact ⟨_, rfl, a, _, _, .int n, rfl, rfl, seqt ha, rfl, (by show 2 ≤ sizeLine; decide), fin n H S.touches (Nat.le_succ _) M (Fr.refl L H) rfl⟩
    | load p r =>
      obtain ⟨hr0, hc⟩ := hok
      obtain ⟨j, ej, hj⟩ := cell_of hc
      refine ⟨_, rfl, a, _, _, .str "load", rfl, rfl, seqt ha, rfl, _, rfl, _, _, _, _, _, rfl, B0, T.c_Bench, T.n_Bench_now, L_Bench_now, _, _, _, _, _, rfl, hs, T.c_Strip, T.n_Strip_base, L_Strip_base, _, rfl, _, _, rfl, rfl, ?_⟩
      iterate 4 (refine ⟨_, rfl, rfl, _, rfl, iteF ?_⟩)
      refine ⟨_, rfl, rfl, _, rfl, iteT ?_⟩
      exact ⟨_, rfl, _, rfl, a, _, _, .int r, rfl, rfl, seqt ha, rfl, _, rfl, L, S, t, r, _, j, _, rfl, M, hr0, ej, hj, hts, fun H1 ts1 e1 M1 f1 => ⟨(by show 2 ≤ sizeLine; decide), fin _ H1 ts1 (by omega) M1 f1 rfl⟩⟩
    | spread p r =>
      refine ⟨_, rfl, a, _, _, .str "spread", rfl, rfl, seqt ha, rfl, _, rfl, _, _, _, _, _, rfl, B0, T.c_Bench, T.n_Bench_now, L_Bench_now, _, _, _, _, _, rfl, hs, T.c_Strip, T.n_Strip_base, L_Strip_base, _, rfl, _, _, rfl, rfl, ?_⟩
      iterate 5 (refine ⟨_, rfl, rfl, _, rfl, iteF ?_⟩)
      refine ⟨_, rfl, rfl, _, rfl, iteT ?_⟩
      exact ⟨_, rfl, (by show 2 ≤ sizeLine; decide), fin spr H S.touches (Nat.le_succ _) M (Fr.refl L H) rfl⟩
    | copy p q =>
      refine ⟨_, rfl, a, _, _, .str "copy", rfl, rfl, seqt ha, rfl, _, rfl, _, _, _, _, _, rfl, B0, T.c_Bench, T.n_Bench_now, L_Bench_now, _, _, _, _, _, rfl, hs, T.c_Strip, T.n_Strip_base, L_Strip_base, _, rfl, _, _, rfl, rfl, ?_⟩
      iterate 8 (refine ⟨_, rfl, rfl, _, rfl, iteF ?_⟩)
      refine ⟨_, rfl, rfl, _, rfl, iteT ?_⟩
      exact ⟨_, rfl, _, rfl, a, _, _, .int q, rfl, rfl, seqt ha, rfl, _, rfl, L, S, t, q, l, rfl, M, seat_lt hok hl ln.1, (by show 2 ≤ sizeLine; decide), fin _ H S.touches (Nat.le_succ _) M (Fr.refl L H) rfl⟩
    | bring p =>
      refine ⟨_, rfl, a, _, _, .str "bring", rfl, rfl, seqt ha, rfl, _, rfl, _, _, _, _, _, rfl, B0, T.c_Bench, T.n_Bench_now, L_Bench_now, _, _, _, _, _, rfl, hs, T.c_Strip, T.n_Strip_base, L_Strip_base, _, rfl, _, _, rfl, rfl, ?_⟩
      iterate 9 (refine ⟨_, rfl, rfl, _, rfl, iteF ?_⟩)
      have hsl : l < S.slot.length := by
        rw [M.b.nslot]
        have := Nat.mul_le_mul_right S.lanes M.g4
        omega
      refine ⟨_, rfl, _, rfl, a, _, _, .int 0, rfl, rfl, seqt ha, rfl, _, rfl, L, S, t, l, (S.slot[l]?).getD 0, rfl, M, ?_, hts, fun H1 ts1 e1 M1 f1 => ⟨(by show 2 ≤ sizeLine; decide), fin _ H1 ts1 (by omega) M1 f1 rfl⟩⟩
      rw [List.getElem?_eq_getElem hsl]
      rfl
    | save p => exact hok.elim
end
end Rb
set_option Elab.async false
set_option linter.all false
set_option maxRecDepth 100000
set_option maxHeartbeats 4000000
/-! a seat is laid -/
namespace Rb
open PySem PySem.Spec PyProof.Rows L2
def Stp.seat : Stp → Nat
  | .number p _ => p
  | .load p _ => p
  | .spread p _ => p
  | .gather p _ _ => p
  | .op p _ _ _ => p
  | .copy p _ => p
  | .bring p => p
  | .save _ => 0
theorem Stp.at1 (st : Stp) : st.v[1]? = some (.int st.seat) := by cases st <;> rfl
theorem Stp.last (st : Stp) : atI st.v (-1) = some (.int 0) := by cases st <;> rfl
abbrev MS.laid (S : MS) (rows : Nat → List Int) (sp : Nat) (ts : List V) : MS := { S with rows := rows, spent := sp, touches := ts }
theorem congr_lane {S : MS} {t : ST} {rows : Nat → List Int} {sp : Nat} {ts : List V} {kvs : List (Key × V)} {st : Stp} {l : Nat} {spr : Int} (h : ∀ q, (q + 1) * t.g ≤ 8 → sv S.lanes t.g rows q l = sv S.lanes t.g S.rows q l) (o : LaneOk S t st l) :
    LaneOk (S.laid rows sp ts) { t with kvs := kvs } st l ∧ got (S.laid rows sp ts) { t with kvs := kvs } spr st l = got S t spr st l := by
  cases st with
  | gather p q r =>
    obtain ⟨h1, h2, h3⟩ := o
    have e := h q h1
    refine ⟨⟨h1, h2, ?_⟩, ?_⟩
    · show 0 ≤ sv S.lanes t.g rows q l → sv S.lanes t.g rows q l < _ → InCells S (startOf S r + sv S.lanes t.g rows q l)
      rw [e]
      exact h3
    · rw [got_gather, got_gather]
      show (if 0 ≤ sv S.lanes t.g rows q l ∧ sv S.lanes t.g rows q l < (S.lengths[r]?).getD 0 then Except.ok (cellAt S (startOf S r + sv S.lanes t.g rows q l)) else _) = _
      rw [e]
  | op p s q r =>
    obtain ⟨h1, h2, h3⟩ := o
    have e1 := h q h1
    have e2 := h r h2
    refine ⟨⟨h1, h2, ?_⟩, ?_⟩
    · show s = "+" ∨ s = "/" ∧ -(2 ^ 63) ≤ sv S.lanes t.g rows r l ∧ sv S.lanes t.g rows r l < 2 ^ 63
      rw [e2]
      exact h3
    · rw [got_op, got_op]
      show doneE s (sv S.lanes t.g rows q l) (sv S.lanes t.g rows r l) = _
      rw [e1, e2]
  | copy p q =>
    refine ⟨o, ?_⟩
    show Except.ok (sv S.lanes t.g rows q l) = Except.ok (sv S.lanes t.g S.rows q l)
    rw [h q o]
  | save p => exact o.elim
  | number p n => exact ⟨o, rfl⟩
  | load p r => exact ⟨o, rfl⟩
  | spread p r => exact ⟨o, rfl⟩
  | bring p => exact ⟨o, rfl⟩
/-- what a lane has behind a step -/
def Laid (g lanes : Nat) (rows : Nat → List Int) (kvs : List (Key × V)) (seat l : Nat) : Except Str Int → Prop
  | .ok n => sv lanes g rows seat l = n ∧ Fine kvs l = true
  | .error f => valV kvs (Sum.inl (l : Int) : Key) = some (.str f)
structure LayPost (S : MS) (t : ST) (st : Stp) (spr : Int) (i : Nat) (rows : Nat → List Int) (ts : List V) (kvs : List (Key × V)) : Prop where
  tl : ts.length ≤ S.touches.length + 1 + i
  kl : kvs.length ≤ t.kvs.length + i
  other : ∀ q l, (q + 1) * t.g ≤ 8 → l < t.g * S.lanes → (q ≠ st.seat ∨ i ≤ l) → sv S.lanes t.g rows q l = sv S.lanes t.g S.rows q l
  laid : ∀ l, l < i → l < t.width → Fine t.kvs l = true → Laid t.g S.lanes rows kvs st.seat l (got S t spr st l)
  kept : ∀ l : Nat, (i ≤ l ∨ t.width ≤ l ∨ Fine t.kvs l = false) → valV kvs (Sum.inl (l : Int) : Key) = valV t.kvs (Sum.inl (l : Int) : Key)
def spLaySeat (K : PySem.W.Frag) : Sp := fun vs H Q _ => ∃ (L : Lay) (S : MS) (t : ST) (a : Addr) (st : Stp), vs = [.ref L.b, .ref a] ∧ H a = some (.tup st.v) ∧ Mach K L S t H ∧ (st.seat + 1) * t.g ≤ 8 ∧ (∀ l, l < t.width → Fine t.kvs l = true → LaneOk S t st l) ∧
  (∀ p r, st = .spread p r → r ≤ S.lengths.length ∧ InCells S (startOf S r + 0)) ∧ S.touches.length < 900000 ∧ t.kvs.length ≤ 10000 ∧ S.stock.length ≤ 1000 ∧
  ∀ H' rows sp ts kvs (spr : Int), Mach K L (S.laid rows sp ts) { t with kvs := kvs } H' → FrS L t H H' → LayPost S t st spr (t.g * S.lanes) rows ts kvs →
    (∀ p r l, st = .spread p r → l < t.width → Fine t.kvs l = true → spr = cellAt S (startOf S r + 0)) → Q .non H'
/-- an object of another kind is none of the machine's -/
theorem Mach.notOwn {K : PySem.W.Frag} {L : Lay} {S : MS} {t : ST} {H : Hp} (M : Mach K L S t H) {a : Addr} {xs : List V} (ha : H a = some (.tup xs)) : ¬ OwnS L t a := by
  rintro (z | z | z)
  · exact M.b.notOwn ha (by show 100 ≠ 0; decide) (by show 100 ≠ 4; decide) (by show 100 ≠ 15; decide) z
  · obtain ⟨dx, hn⟩ := M.n
    exact kd_ne ha hn (by show 100 ≠ 2 + 7; decide) z
  · exact kd_ne ha M.f (by show 100 ≠ 1; decide) z
section
variable {P : Program} {w : World} {K : PySem.W.Frag} {mg : Str → Option Value} {base : Heap}
theorem sc_lay_seat : FnScope ["bench", "step", "now", "spread", "lane", "got", "number"] ["bench", "step"] (defScope s_lay_seat) := ⟨rfl, rfl, rfl, by decide +kernel, rfl, by decide +kernel, by decide +kernel⟩
theorem bi_lay_seat {K : PySem.W.Frag} {f : Addr} {fd : FuncData} (F : FunD K "lay_seat" "lay_seat" (defArgs s_lay_seat) (defBody s_lay_seat) (defScope s_lay_seat) [] [] f fd) : Binds K fd ["bench", "step"] [] := F.bindsN fun _ _ _ _ _ _ us hl => match us, hl with | [_, _], _ => rfl
theorem ok_lay_seat (T : Tx K mg) : Gd P w K mg base CX0 6 (He.fAd K ("lay_seat", none)) ["bench", "step"] [] (spLaySeat K) := by
  obtain ⟨fd_spread_read, G_spread_read, p_spread_read, ds_spread_read, v_spread_read, b_spread_read⟩ := ok_spread_read (P := P) (w := w) (base := base) T
  obtain ⟨fd_lane_active, G_lane_active, p_lane_active, ds_lane_active, v_lane_active, b_lane_active⟩ := ok_lane_active (P := P) (w := w) (base := base) T
  obtain ⟨fd_lane_got, G_lane_got, p_lane_got, ds_lane_got, v_lane_got, b_lane_got⟩ := ok_lane_got (P := P) (w := w) (base := base) T
  obtain ⟨fd_Feed_taken, G_Feed_taken, p_Feed_taken, ds_Feed_taken, v_Feed_taken, b_Feed_taken⟩ := ok_taken (P := P) (w := w) (base := base) T
  obtain ⟨fd_Boxes_lay, G_Boxes_lay, p_Boxes_lay, ds_Boxes_lay, v_Boxes_lay, b_Boxes_lay⟩ := ok_lay (P := P) (w := w) (base := base) T
  refine gd_mk T.d_lay_seat sc_lay_seat (fun F => bn (bi_lay_seat F)) (fun vs H Q E h => ?_) (fun cdv A outer s H vs Q E hr h => ?_)
  · obtain ⟨_, _, _, _, _, rfl, _⟩ := h
    rfl
  · obtain ⟨L, S, t, a, st, rfl, ha, M, hseat, hok, hsp, hts, hkv, hstk, k⟩ := h
    have hu := hu_of hr
    have ln := M.b.nlanes
    have hg := M.g4
    have B0 := M.b.b
    rw [M.now] at B0
    refine ⟨_, (pss_cons (ps_set (i := 2) sc_lay_seat.nd rfl (Or.inl rfl) (pe_fld (pv 0) rfl))
  (pss_cons (ps_set (i := 3) sc_lay_seat.nd rfl (Or.inl rfl) (pe_call G_spread_read (hr.mono (by decide)) rfl T.g_spread_read p_spread_read b_spread_read v_spread_read pass0 (pa_cons (pv 0) (pa_cons (pv 1) pa_nil))))
  (pss_one (ps_for PassesOwn.never rfl (pi_range1 rfl T.b_range (pa_cons (pe_op op_mul (pe_fld (pv 2) rfl) (pe_fld (pv 0) rfl)) pa_nil)) (pg_name (i := 4) sc_lay_seat.nd rfl (Or.inl rfl))
  (pss_cons (ps_set (i := 5) sc_lay_seat.nd rfl (Or.inl rfl) (pe_tup (pa_cons pe_int (pa_cons pe_str pa_nil))))
  (C8.pss_cut (ps_if (pt_val (pe_call G_lane_active (hr.mono (by decide)) rfl T.g_lane_active p_lane_active b_lane_active v_lane_active pass0 (pa_cons (pv 0) (pa_cons (pe_ix ix_tup (pv 1) (pe_un un_neg pe_int) (fun _ _ => rfl)) (pa_cons (pv 4) pa_nil)))))
  (pss_cons (ps_set (i := 5) sc_lay_seat.nd rfl (Or.inl rfl) (pe_call G_lane_got (hr.mono (by decide)) rfl T.g_lane_got p_lane_got b_lane_got v_lane_got pass0 (pa_cons (pv 0) (pa_cons (pv 1) (pa_cons (pv 4) (pa_cons (pv 3) pa_nil))))))
  (pss_one (ps_if (pt_cmpR op_notN (pe_ix ix_tup (pv 5) pe_int (fun _ _ => rfl)) pe_non (nomark _))
  (pss_one (ps_dput hu (pe_fld (pv 2) rfl) (pv 4) (pe_ix ix_tup (pv 5) pe_int (fun _ _ => rfl)) rfl))
  pss_nil)))
  pss_nil)
  (pss_cons (ps_set (i := 6) sc_lay_seat.nd rfl (Or.inl rfl) (pe_ix ix_tup (pv 5) pe_int (fun _ _ => rfl)))
  (C8.pss_cut (ps_if (pt_cmpR op_notN (pe_ix ix_tup (pv 5) pe_int (fun _ _ => rfl)) pe_non (nomark _))
  (pss_one (ps_set (i := 6) sc_lay_seat.nd rfl (Or.inl rfl) (pe_meth0 (pe_fld (pv 0) rfl) T.c_Feed T.m_Feed_taken G_Feed_taken (hr.mono (by decide)) b_Feed_taken v_Feed_taken pass0)))
  pss_nil)
  (pss_one (ps_expr (pe_meth (pe_fld (pv 0) rfl) T.c_Boxes T.m_Boxes_lay G_Boxes_lay (hr.mono (by decide)) b_Boxes_lay v_Boxes_lay pass0 (pa_cons (pe_fld (pv 2) rfl) (pa_cons (pe_ix ix_tup (pv 1) pe_int (fun _ _ => rfl)) (pa_cons (pv 4) (pa_cons (pv 6) pa_nil))))))))))))))), ?_⟩
    refine ⟨_, rfl, _, _, _, _, _, rfl, B0, T.c_Bench, T.n_Bench_now, L_Bench_now, _, rfl, _, rfl, L, S, t, a, st, rfl, ha, M, by omega, hsp, fun H1 ts1 spr e1 M1 f1 hspr => ?_⟩
    have ha1 : H1 a = some (.tup st.v) := f1 a _ ha fun z => M.notOwn ha (.inl z)
    obtain ⟨ndx, hs1⟩ := M1.n
    have hgl : t.g * S.lanes ≤ 64 := Nat.le_trans (Nat.mul_le_mul hg ln.2) (by decide)
    refine ⟨_, rfl, _, _, _, _, _, rfl, hs1, T.c_Strip, T.n_Strip_group, L_Strip_group, _, rfl, _, _, _, _, _, rfl, M1.b.b, T.c_Bench, T.n_Bench_lanes, L_Bench_lanes, _, _, rfl, rfl, .inl ⟨by omega, by omega⟩, _, rfl, ?_, ?_, ?_⟩
    · show -(2 ^ 62) ≤ (t.g : Int) * (S.lanes : Int)
      rw [← Int.natCast_mul]
      omega
    · show (t.g : Int) * (S.lanes : Int) < 2 ^ 62
      rw [← Int.natCast_mul]
      omega
    have en : ((t.g : Int) * (S.lanes : Int)).toNat = t.g * S.lanes := by
      rw [← Int.natCast_mul]
      exact Int.toNat_natCast _
    show ∃ W, _
    rw [en]
    refine for_range (lo := 0) (n := t.g * S.lanes) (fun i σ H2 => ∃ (rows : Nat → List Int) (sp : Nat) (ts : List V) (kvs : List (Key × V)) (v1 v2 v3 : Option V), σ = [some (.ref L.b), some (.ref a), some (.ref t.n), some (.int spr), v1, v2, v3] ∧ Mach K L (S.laid rows sp ts) { t with kvs := kvs } H2 ∧ FrS L t H H2 ∧ LayPost S t st spr i rows ts kvs) ?_ ?_ ?_
    · refine ⟨S.rows, S.spent, ts1, t.kvs, _, _, _, rfl, M1, f1.s, ?_⟩
      refine ⟨?_, Nat.le_refl _, ?_, ?_, ?_⟩
      · omega
      · intros
        rfl
      · intro l h
        omega
      · intros
        rfl
    · rintro i σ H2 hi ⟨rows, sp, ts, kvs, v1, v2, v3, rfl, M2, f2, O⟩
      have hfine : valV kvs (Sum.inl (i : Int) : Key) = valV t.kvs (Sum.inl (i : Int) : Key) := O.kept i (.inl (Nat.le_refl _))
      have ha2 : H2 a = some (.tup st.v) := f2 a _ ha (M.notOwn ha)
      have svq : ∀ q, (q + 1) * t.g ≤ 8 → sv S.lanes t.g rows q i = sv S.lanes t.g S.rows q i := fun q hq => O.other q i hq hi (.inr (Nat.le_refl _))
      have ofr : ∀ {p : Addr} {gv : List V} {H3 : Hp} {kv : List (Key × V)} {r : Nat → List Int} {x : Nat} {y : List V}, Mach K L (S.laid r x y) { t with kvs := kv } H3 → H3 p = some (.tup gv) → ∀ {H4 : Hp}, FrS L t H3 H4 → H4 p = some (.tup gv) := fun {p gv H3 kv r x y} M3 hp {H4} f => f p _ hp (M3.notOwn hp)
      rw [show (0 : Int) + (i : Int) = (i : Int) from Int.zero_add _]
      -- got = (0, 'none')
      refine ⟨(by show 2 ≤ sizeLine; decide), fun p1 hp1 => ?_⟩
      have e1 := same_new (o := .tup [.int 0, .str "none"]) hp1
      have M3 := M2.same e1
      -- the lane is active or not
      refine ⟨fun σ H3 => ∃ (pg : Addr) (v3 : Option V) (ts3 : List V) (kvs3 : List (Key × V)) (gv : List V), σ = [some (.ref L.b), some (.ref a), some (.ref t.n), some (.int spr), some (.int i), some (.ref pg), v3] ∧ H3 pg = some (.tup gv) ∧
        Mach K L (S.laid rows sp ts3) { t with kvs := kvs3 } H3 ∧ FrS L t H H3 ∧ ts3.length ≤ ts.length + 1 ∧
        ((i < t.width ∧ Fine t.kvs i = true ∧ (∃ n, gv = [.int n, .non] ∧ got S t spr st i = .ok n ∧ kvs3 = kvs)) ∨ (i < t.width ∧ Fine t.kvs i = true ∧ (∃ f, gv = [.int 0, .str f] ∧ got S t spr st i = .error f ∧ kvs3 = putK kvs (Sum.inl (i : Int)) (.str f))) ∨
          ((t.width ≤ i ∨ Fine t.kvs i = false) ∧ gv = [.int 0, .str "none"] ∧ kvs3 = kvs)), ?_, ?_⟩
      · refine ⟨_, rfl, _, rfl, _, rfl, a, _, _, .int 0, rfl, rfl, seqt (e1 _ _ ha2), st.last, _, rfl, L, S.laid rows sp ts, { t with kvs := kvs }, i, ?_, M3, _, rfl, ?_⟩
        · simp
        have ef : Fine kvs i = Fine t.kvs i := by
          unfold Fine
          rw [hfine]
        show if (decide (i < t.width) && Fine kvs i) = true then _ else _
        rw [ef]
        by_cases hact : i < t.width ∧ Fine t.kvs i = true
        · obtain ⟨hw, hf⟩ := hact
          have hT : (decide (i < t.width) && Fine t.kvs i) = true := by rw [decide_eq_true hw, hf, Bool.true_and]
          rw [hT]
          refine iteT ?_
          obtain ⟨ok2, got2⟩ := congr_lane (S := S) (t := t) (rows := rows) (sp := sp) (ts := ts) (kvs := kvs) (st := st) (l := i) (spr := spr) svq (hok i hw hf)
          have tl := O.tl
          refine ⟨_, rfl, _, rfl, _, rfl, _, rfl, L, S.laid rows sp ts, { t with kvs := kvs }, a, st, i, spr, ?_, e1 _ _ ha2, M3, ok2, hi, by show ts.length < _; omega, fun H4 ts4 p4 l4 M4 f4 h4 => ?_⟩
          · simp
          rw [got2] at h4
          have F4 : FrS L t H H4 := (f2.trans ((Fr.of_same e1).trans f4).s rfl rfl)
          cases eg : got S t spr st i with
          | ok n =>
            rw [eg] at h4
            refine ⟨_, rfl, p4, _, _, .non, rfl, rfl, seqt h4, rfl, rfl, _, rfl, iteF ?_⟩
            exact ⟨p4, v3, ts4, kvs, _, rfl, h4, M4, F4, l4, .inl ⟨hw, hf, n, rfl, rfl, rfl⟩⟩
          | error f =>
            rw [eg] at h4
            refine ⟨_, rfl, p4, _, _, .str f, rfl, rfl, seqt h4, rfl, rfl, _, rfl, iteT ?_⟩
            obtain ⟨ndx4, hs4⟩ := M4.n
            have kl := O.kl
            refine ⟨_, rfl, p4, _, _, .str f, rfl, rfl, seqt h4, rfl, _, rfl, _, _, _, _, _, rfl, hs4, T.c_Strip, T.n_Strip_faults, L_Strip_faults, _, rfl, t.f, _, rfl, DPut.k (k := Sum.inl (i : Int)) M4.f (szT (by show kvs.length < _; omega)), ?_⟩
            have M5 := M4.setKvs (putK kvs (Sum.inl (i : Int)) (.str f))
            refine ⟨p4, v3, ts4, putK kvs (Sum.inl (i : Int)) (.str f), _, rfl, (upd_ne (kd_ne h4 M4.f (by show 100 ≠ 1; decide))).trans h4, M5, fun x o hx hn => ?_, l4, .inr (.inl ⟨hw, hf, f, rfl, rfl, rfl⟩)⟩
            exact (upd_ne (fun e => hn (.inr (.inr e)))).trans (F4 x o hx hn)
        · have hz : (decide (i < t.width) && Fine t.kvs i) = false := by
            cases hq : (decide (i < t.width) && Fine t.kvs i) with
            | false => rfl
            | true =>
              rw [Bool.and_eq_true, decide_eq_true_eq] at hq
              exact (hact hq).elim
          rw [hz]
          refine iteF ?_
          refine ⟨p1, v3, ts, kvs, _, rfl, upd_same, M3, f2.trans (Fr.of_same e1).s rfl rfl, Nat.le_succ _, .inr (.inr ⟨?_, rfl, rfl⟩)⟩
          by_cases hw : i < t.width
          · refine .inr ?_
            cases hq : Fine t.kvs i with
            | false => rfl
            | true => exact (hact ⟨hw, hq⟩).elim
          · exact .inl (by omega)
      · rintro σ3 H3 ⟨pg, v3, ts3, kvs3, gv, rfl, hgv, M3, f3, l3, hc⟩
        have ha3 : H3 a = some (.tup st.v) := f3 a _ ha (M.notOwn ha)
        have hgv2 : ∃ x y, gv = [.int x, y] := by
          rcases hc with ⟨_, _, n, rfl, _⟩ | ⟨_, _, f, rfl, _⟩ | ⟨_, rfl, _⟩
          · exact ⟨_, _, rfl⟩
          · exact ⟨_, _, rfl⟩
          · exact ⟨_, _, rfl⟩
        obtain ⟨x, y, egv⟩ := hgv2
        rw [egv] at hgv
        refine ⟨_, rfl, pg, _, _, .int x, rfl, rfl, seqt hgv, rfl, ?_⟩
        refine ⟨fun σ H4 => ∃ (z : Int) (sp4 : Nat), σ = [some (.ref L.b), some (.ref a), some (.ref t.n), some (.int spr), some (.int i), some (.ref pg), some (.int z)] ∧ Mach K L (S.laid rows sp4 ts3) { t with kvs := kvs3 } H4 ∧ FrS L t H H4 ∧ (y = .non → z = x), ?_, ?_⟩
        · refine ⟨_, rfl, pg, _, _, y, rfl, rfl, seqt hgv, rfl, rfl, _, rfl, ?_⟩
          by_cases hy : y = .non
          · rw [decide_eq_true hy]
            exact iteF ⟨x, sp, rfl, M3, f3, fun _ => rfl⟩
          · rw [decide_eq_false hy]
            refine iteT ?_
            refine ⟨_, rfl, _, _, _, _, _, rfl, M3.b.b, T.c_Bench, T.n_Bench_dust, L_Bench_dust, L.du, L.dudx, _, rfl, M3.b.du, by kernel_rfl, L.du, L.dst, L.dudx, S.stock, sp, rfl, M3.b.du, M3.b.dst, kd_ne M3.b.du M3.b.dst (by show 2 + 2 ≠ 0; decide), M3.b.nspent, hstk, fun z m hm => ?_⟩
            exact ⟨z, m, rfl, M3.setSpent m hm, (f3.trans (((Fr.refl L H3).upd (.inr (.inr (.inr (.inr (.inl rfl)))))).s (s := t)) rfl rfl), fun e => (hy e).elim⟩
        · rintro σ4 H4 ⟨z, sp4, rfl, M4, f4, hz⟩
          have ha4 : H4 a = some (.tup st.v) := f4 a _ ha (M.notOwn ha)
          obtain ⟨ndx4, hs4⟩ := M4.n
          have hb := seat_lt hseat hi ln.1
          have hrow : (rows (st.seat * t.g + i / S.lanes)).length = S.lanes := M4.b.nrow _ hb
          refine ⟨_, rfl, _, _, _, _, _, rfl, M4.b.b, T.c_Bench, T.n_Bench_boxes, L_Bench_boxes, L.bx, L.bxdx, _, rfl, M4.b.bx, by kernel_rfl, _, rfl, _, _, _, _, _, rfl, hs4, T.c_Strip, T.n_Strip_group, L_Strip_group, _, rfl, a, _, _, .int st.seat, rfl, rfl, seqt ha4, atI_nat (j := 1) st.at1, _, rfl, _, rfl, ?_⟩
          refine ⟨L.bx, L.bl, L.bxdx, L.row (st.seat * t.g + i / S.lanes), S.lanes, t.g, st.seat, i, rowsV L, (rows (st.seat * t.g + i / S.lanes)).map V.int, .int z, rfl, M4.b.bx, M4.b.bl, ln.1, ln.2, hg, rowsV_at L hb, M4.b.row _ hb, ?_, ?_⟩
          · rw [List.length_map, hrow]
            exact Nat.mod_lt _ ln.1
          have M5 := M4.setRow hb ((rows (st.seat * t.g + i / S.lanes)).set (i % S.lanes) z) (by rw [List.length_set]; exact hrow)
          rw [List.map_set] at M5
          have svs : ∀ q l, l < t.g * S.lanes → sv S.lanes t.g (setRow rows (st.seat * t.g + i / S.lanes) ((rows (st.seat * t.g + i / S.lanes)).set (i % S.lanes) z)) q l = if q = st.seat ∧ l = i then z else sv S.lanes t.g rows q l := fun q l hl => sv_set ln.1 hi hl hrow
          have kne : ∀ l : Nat, l ≠ i ∨ kvs3 = kvs → valV kvs3 (Sum.inl (l : Int) : Key) = valV kvs (Sum.inl (l : Int) : Key) := fun l hl => by
            rcases hc with ⟨_, _, _, _, _, rfl⟩ | ⟨_, _, f, _, _, rfl⟩ | ⟨_, _, rfl⟩
            · rfl
            · rcases hl with hl | hl
              · rw [L2.valV_put, if_neg (inl_ne hl)]
              · rw [hl]
            · rfl
          have hk3 : kvs3.length ≤ kvs.length + 1 := by
            rcases hc with ⟨_, _, _, _, _, rfl⟩ | ⟨_, _, f, _, _, rfl⟩ | ⟨_, _, rfl⟩
            · exact Nat.le_succ _
            · exact putK_le _ _ _
            · exact Nat.le_succ _
          have tl := O.tl
          have kl := O.kl
          refine ⟨setRow rows (st.seat * t.g + i / S.lanes) ((rows (st.seat * t.g + i / S.lanes)).set (i % S.lanes) z), sp4, ts3, kvs3, _, _, _, rfl, M5, (f4.trans (((Fr.refl L H4).upd (.inr (.inr (.inr (.inr (.inr (.inr ⟨_, hb, rfl⟩))))))).s (s := t)) rfl rfl), ?_, ?_, ?_, ?_, ?_⟩
          · omega
          · omega
          · intro q l hq hl ho
            rw [svs q l hl, if_neg (by omega)]
            exact O.other q l hq hl (by omega)
          · intro l hl hw hf
            have hlg : l < t.g * S.lanes := by omega
            by_cases e : l = i
            · subst e
              rcases hc with ⟨_, _, n, eg, eq, rfl⟩ | ⟨_, _, f, eg, eq, rfl⟩ | ⟨hno, _⟩
              · rw [eq]
                have h1 : x = n ∧ y = V.non := by
                  rw [egv] at eg
                  injection eg with q1 q2
                  injection q1 with q1
                  injection q2 with q2
                  exact ⟨q1, q2⟩
                refine ⟨?_, ?_⟩
                · rw [svs _ _ hlg, if_pos ⟨rfl, rfl⟩, hz h1.2, h1.1]
                · unfold Fine
                  rw [hfine]
                  exact hf
              · rw [eq]
                show valV (putK kvs _ _) _ = _
                rw [L2.valV_put, if_pos rfl]
              · rcases hno with h | h
                · omega
                · rw [hf] at h
                  cases h
            · have hli : l < i := by omega
              have o := O.laid l hli hw hf
              have es : sv S.lanes t.g (setRow rows (st.seat * t.g + i / S.lanes) ((rows (st.seat * t.g + i / S.lanes)).set (i % S.lanes) z)) st.seat l = sv S.lanes t.g rows st.seat l := by
                rw [svs _ _ hlg, if_neg (fun w => e w.2)]
              cases eg : got S t spr st l with
              | ok n =>
                rw [eg] at o
                refine ⟨es.trans o.1, ?_⟩
                unfold Fine
                rw [kne l (.inl e)]
                exact o.2
              | error f =>
                rw [eg] at o
                show valV kvs3 _ = _
                rw [kne l (.inl e)]
                exact o
          · intro l hl
            have hne : l ≠ i ∨ kvs3 = kvs := by
              rcases hc with ⟨_, _, _, _, _, rfl⟩ | ⟨hw, hf, f, _, _, rfl⟩ | ⟨_, _, rfl⟩
              · exact .inr rfl
              · refine .inl fun e => ?_
                subst e
                rcases hl with hl | hl | hl
                · omega
                · omega
                · rw [hf] at hl
                  cases hl
              · exact .inr rfl
            rw [kne l hne]
            exact O.kept l (hl.elim (fun h => .inl (by omega)) .inr)
    · rintro σ H2 ⟨rows, sp, ts, kvs, v1, v2, v3, rfl, M2, f2, O⟩
      exact k H2 rows sp ts kvs spr M2 f2 O hspr
end
end Rb
set_option Elab.async false
set_option linter.all false
set_option maxRecDepth 100000
set_option maxHeartbeats 4000000
/-! trim, stop, save, store -/
namespace Rb
open PySem PySem.Spec PyProof.Rows L2
def cutOf (t : ST) : Option Nat := (List.range t.width).find? fun l => !Fine t.kvs l
def trimmed (t : ST) : ST := match cutOf t with
  | none => t
  | some l => { t with width := l, cut := .int l }
theorem cut_none {t : ST} (h : ∀ l, l < t.width → Fine t.kvs l = true) : cutOf t = none := by
  refine List.find?_eq_none.mpr fun l hl => ?_
  rw [h l (List.mem_range.mp hl)]
  decide
theorem cut_some {t : ST} {i : Nat} (hi : i < t.width) (h : ∀ l, l < i → Fine t.kvs l = true) (hf : Fine t.kvs i = false) : cutOf t = some i := by
  unfold cutOf
  have e : List.range t.width = List.range i ++ i :: (List.range' (i + 1) (t.width - (i + 1))) := by
    have e1 := List.range'_append_1 (s := 0) (m := i) (n := t.width - (i + 1) + 1)
    rw [Nat.zero_add] at e1
    rw [List.range_eq_range', List.range_eq_range', ← List.range'_succ, e1]
    congr 1
    omega
  rw [e, List.find?_append, List.find?_eq_none.mpr fun l hl => ?_, List.find?_cons, hf]
  · rfl
  · rw [h l (List.mem_range.mp hl)]
    decide
theorem cutOf_lt {t : ST} {l : Nat} (h : cutOf t = some l) : l < t.width ∧ Fine t.kvs l = false ∧ ∀ j, j < l → Fine t.kvs j = true := by
  have h1 := List.find?_some h
  have h2 := List.mem_of_find?_eq_some h
  refine ⟨List.mem_range.mp h2, by simpa using h1, fun j hj => ?_⟩
  have h3 := List.find?_range_eq_some.mp h
  simpa using h3.2.2 j hj
theorem cutOf_all {t : ST} (h : cutOf t = none) : ∀ j, j < t.width → Fine t.kvs j = true := fun j hj => by
  have := List.find?_eq_none.mp h j (List.mem_range.mpr hj)
  simpa using this
def spTrim (K : PySem.W.Frag) : Sp := fun vs H Q _ => ∃ (L : Lay) (S : MS) (t : ST), vs = [.ref L.b] ∧ Mach K L S t H ∧ t.cut = .non ∧ ∀ H', Mach K L S (trimmed t) H' → FrS L t H H' → Q .non H'
def spStop (K : PySem.W.Frag) : Sp := fun vs H Q _ => ∃ (L : Lay) (S : MS) (t : ST) (a : Addr) (n : Int), vs = [.ref L.b, .ref a] ∧ H a = some (.tup [.str "stop", .int n]) ∧ Mach K L S t H ∧
  ((t.cut = .non ∧ Q .non H) ∨ ∃ (l : Nat) (f : Str), t.cut = .int l ∧ valV t.kvs (Sum.inl (l : Int) : Key) = some (.str f) ∧ ∀ p H', H p = none → Same H H' → H' p = some (.tup [.int n, .int (t.base + l : Int), .str f]) → Q (.ref p) H')
def spSave (K : PySem.W.Frag) : Sp := fun vs H Q _ => ∃ (L : Lay) (S : MS) (t : ST) (a : Addr) (p : Nat), vs = [.ref L.b, .ref a] ∧ H a = some (.tup [.str "save", .int 0, .int p, .int 0]) ∧ Mach K L S t H ∧ (p + 1) * t.g ≤ 8 ∧ S.touches.length < 900000 ∧
  ∀ H' slot ts, Mach K L { S with touches := ts, slot := slot } t H' → Fr L H H' → ts.length ≤ S.touches.length + 64 → (∀ l, l < t.width → Fine t.kvs l = true → slot[l]? = some (sv S.lanes t.g S.rows p l)) → Q .non H'
def spStore (K : PySem.W.Frag) : Sp := fun vs H Q _ => ∃ (L : Lay) (S : MS) (t : ST) (a : Addr) (r p : Nat), vs = [.ref L.b, .ref a] ∧ H a = some (.tup [.str "store", .int r, .int p, .int 0]) ∧ Mach K L S t H ∧ (p + 1) * t.g ≤ 8 ∧ S.touches.length < 900000 ∧ r ≤ S.lengths.length ∧
  (∀ l, l < t.width → Fine t.kvs l = true → InCells S (startOf S r + ((t.base : Int) + (l : Int)))) ∧
  ∀ H' cells ts, Mach K L { S with touches := ts, cells := cells } t H' → Fr L H H' → ts.length ≤ S.touches.length + 64 → cells.length = S.cells.length →
    (∀ l, l < t.width → Fine t.kvs l = true → ∀ j : Nat, startOf S r + ((t.base : Int) + (l : Int)) = j → cells[j]? = some (sv S.lanes t.g S.rows p l)) →
    (∀ j : Nat, (∀ l, l < t.width → Fine t.kvs l = true → startOf S r + ((t.base : Int) + (l : Int)) ≠ j) → cells[j]? = S.cells[j]?) → Q .non H'
theorem Mach.fresh {K : PySem.W.Frag} {L : Lay} {S : MS} {t : ST} {H : Hp} (M : Mach K L S t H) {p : Addr} (h : H p = none) : ¬ OwnS L t p := by
  rintro (z | e | e)
  · rcases z with e | e | e | e | e | e | ⟨i, hi, e⟩
    · rw [e, M.b.b] at h; cases h
    · rw [e, M.b.cells] at h; cases h
    · rw [e, M.b.m0] at h; cases h
    · rw [e, M.b.s0] at h; cases h
    · rw [e, M.b.du] at h; cases h
    · rw [e, M.b.tch] at h; cases h
    · rw [e, M.b.row i hi] at h; cases h
  · obtain ⟨dx, hn⟩ := M.n
    rw [e, hn] at h; cases h
  · rw [e, M.f] at h; cases h
theorem Mach.gl {K : PySem.W.Frag} {L : Lay} {S : MS} {t : ST} {H : Hp} (M : Mach K L S t H) : t.width ≤ 64 ∧ t.width ≤ t.g * S.lanes := by
  have h1 := Nat.mul_le_mul M.g4 M.b.nlanes.2
  have h2 := M.wb
  have h3 := M.bg
  exact ⟨by omega, by omega⟩
/-- the active lanes, in order -/
theorem acts_at {t : ST} {i : Nat} {x : V} (h : ((acts t).map fun j => V.int (j : Nat))[i]? = some x) : ∃ l, x = .int (l : Nat) ∧ (acts t)[i]? = some l ∧ l < t.width ∧ Fine t.kvs l = true := by
  rw [List.getElem?_map] at h
  obtain ⟨l, h1, h2⟩ := Option.map_eq_some_iff.mp h
  have h3 := List.mem_of_getElem? h1
  obtain ⟨h4, h5⟩ := List.mem_filter.mp h3
  exact ⟨l, h2.symm, h1, List.mem_range.mp h4, h5⟩
theorem acts_in {t : ST} {l : Nat} (h1 : l < t.width) (h2 : Fine t.kvs l = true) : ∃ i, i < (acts t).length ∧ (acts t)[i]? = some l := by
  have h : l ∈ acts t := List.mem_filter.mpr ⟨List.mem_range.mpr h1, h2⟩
  obtain ⟨i, hi, e⟩ := List.mem_iff_getElem.mp h
  exact ⟨i, hi, by rw [List.getElem?_eq_getElem hi, e]⟩
theorem acts_nodup {t : ST} : (acts t).Nodup := List.Nodup.sublist List.filter_sublist List.nodup_range
theorem acts_le {t : ST} : (acts t).length ≤ t.width := by
  have := List.length_filter_le (fun j => Fine t.kvs j) (List.range t.width)
  rw [List.length_range] at this
  exact this
section
variable {P : Program} {w : World} {K : PySem.W.Frag} {mg : Str → Option Value} {base : Heap}
theorem sc_trim_strip : FnScope ["bench", "now", "lane"] ["bench"] (defScope s_trim_strip) := ⟨rfl, rfl, rfl, by decide +kernel, rfl, by decide +kernel, by decide +kernel⟩
theorem bi_trim_strip {K : PySem.W.Frag} {f : Addr} {fd : FuncData} (F : FunD K "trim_strip" "trim_strip" (defArgs s_trim_strip) (defBody s_trim_strip) (defScope s_trim_strip) [] [] f fd) : Binds K fd ["bench"] [] := F.bindsN fun _ _ _ _ _ _ us hl => match us, hl with | [_], _ => rfl
theorem ok_trim_strip (T : Tx K mg) : Gd P w K mg base CX0 1 (He.fAd K ("trim_strip", none)) ["bench"] [] (spTrim K) := by
  refine gd_mk T.d_trim_strip sc_trim_strip (fun F => bn (bi_trim_strip F)) (fun vs H Q E h => ?_) (fun cdv A outer s H vs Q E hr h => ?_)
  · obtain ⟨_, _, _, rfl, _⟩ := h
    rfl
  · obtain ⟨L, S, t, rfl, M, hcut, k⟩ := h
    have hu := hu_of hr
    have B0 := M.b.b
    rw [M.now] at B0
    obtain ⟨ndx, hs⟩ := M.n
    have hw := M.gl
    refine ⟨_, (pss_cons (ps_set (i := 1) sc_trim_strip.nd rfl (Or.inl rfl) (pe_fld (pv 0) rfl))
  (pss_cons (ps_for PassesOwn.never rfl (pi_range1 rfl T.b_range (pa_cons (pe_fld (pv 1) rfl) pa_nil)) (pg_name (i := 2) sc_trim_strip.nd rfl (Or.inl rfl))
  (pss_one (ps_if (pt_cmp (pc_din hu (pv 2) (pe_fld (pv 1) rfl)))
  (pss_cons (ps_fld (pv 1) (pv 2) rfl)
  (pss_one ps_break))
  pss_nil)))
  (pss_one (ps_if (pt_cmpR op_notN (pe_fld (pv 1) rfl) pe_non (nomark _))
  (pss_one (ps_fld (pv 1) (pe_fld (pv 1) rfl) rfl))
  pss_nil)))), ?_⟩
    refine ⟨_, rfl, _, _, _, _, _, rfl, B0, T.c_Bench, T.n_Bench_now, L_Bench_now, _, rfl, _, _, _, _, _, rfl, hs, T.c_Strip, T.n_Strip_width, L_Strip_width, _, rfl, by omega, by omega, ?_⟩
    refine for_range (lo := 0) (n := t.width) (fun i σ H2 => ∃ (v1 : Option V), σ = [some (.ref L.b), some (.ref t.n), v1] ∧ H2 = H ∧ ∀ l, l < i → Fine t.kvs l = true) ⟨_, rfl, rfl, fun l h => absurd h (Nat.not_lt_zero l)⟩ ?_ ?_
    · rintro i σ H2 hi ⟨v1, rfl, rfl, hf⟩
      rw [show (0 : Int) + (i : Int) = (i : Int) from Int.zero_add _]
      refine ⟨_, rfl, _, rfl, _, _, _, _, _, rfl, hs, T.c_Strip, T.n_Strip_faults, L_Strip_faults, t.f, _, rfl, DGet.k (k := Sum.inl (i : Int)) M.f, _, rfl, ?_⟩
      cases q : valV t.kvs (Sum.inl (i : Int) : Key) with
      | none =>
        refine iteF ⟨_, rfl, rfl, fun l hl => ?_⟩
        by_cases e : l = i
        · subst e
          unfold Fine
          rw [q]
          rfl
        · exact hf l (by omega)
      | some v =>
        have hfi : Fine t.kvs i = false := by
          unfold Fine
          rw [q]
          rfl
        have ec := cut_some hi hf hfi
        refine iteT ⟨_, rfl, _, rfl, _, _, _, _, rfl, hs, T.c_Strip, T.n_Strip_cut, N_Strip, ?_⟩
        rw [P_Strip_cut]
        have h1 : upd H2 t.n (.ins (C_Strip K) ndx (F_Strip (.int t.many) (.int t.g) (.int t.base) (.int t.began) (.int t.width) (.ref t.f) (.int i))) t.n = _ := upd_same
        refine ⟨_, rfl, _, _, _, _, _, rfl, h1, T.c_Strip, T.n_Strip_cut, L_Strip_cut, rfl, _, rfl, iteT ?_⟩
        refine ⟨_, rfl, _, _, _, _, _, rfl, h1, T.c_Strip, T.n_Strip_cut, L_Strip_cut, _, rfl, _, _, _, _, rfl, h1, T.c_Strip, T.n_Strip_width, N_Strip, ?_⟩
        rw [P_Strip_width, upd_upd]
        have M1 := M.setStrip hs i (.int i) (Nat.le_of_lt hi)
        have et : trimmed t = { t with width := i, cut := .int i } := by
          unfold trimmed
          rw [ec]
        refine k _ (by rw [et]; exact M1) fun x o hx hn => ?_
        exact (upd_ne fun e => hn (.inr (.inl e))).trans hx
    · rintro σ H2 ⟨v1, rfl, rfl, hf⟩
      have et : trimmed t = t := by
        unfold trimmed
        rw [cut_none hf]
      rw [et] at k
      have h1 := hs
      unfold stripO at h1
      rw [hcut] at h1
      exact ⟨_, rfl, _, _, _, _, _, rfl, h1, T.c_Strip, T.n_Strip_cut, L_Strip_cut, rfl, _, rfl, iteF (k _ M (FrS.refl L t _))⟩
theorem sc_stop_refusal : FnScope ["bench", "step", "now"] ["bench", "step"] (defScope s_stop_refusal) := ⟨rfl, rfl, rfl, by decide +kernel, rfl, by decide +kernel, by decide +kernel⟩
theorem bi_stop_refusal {K : PySem.W.Frag} {f : Addr} {fd : FuncData} (F : FunD K "stop_refusal" "stop_refusal" (defArgs s_stop_refusal) (defBody s_stop_refusal) (defScope s_stop_refusal) [] [] f fd) : Binds K fd ["bench", "step"] [] := F.bindsN fun _ _ _ _ _ _ us hl => match us, hl with | [_, _], _ => rfl
theorem ok_stop_refusal (T : Tx K mg) : Gd P w K mg base CX0 1 (He.fAd K ("stop_refusal", none)) ["bench", "step"] [] (spStop K) := by
  refine gd_mk T.d_stop_refusal sc_stop_refusal (fun F => bn (bi_stop_refusal F)) (fun vs H Q E h => ?_) (fun cdv A outer s H vs Q E hr h => ?_)
  · obtain ⟨_, _, _, _, _, rfl, _⟩ := h
    rfl
  · obtain ⟨L, S, t, a, n, rfl, ha, M, h⟩ := h
    have hu := hu_of hr
    have B0 := M.b.b
    rw [M.now] at B0
    obtain ⟨ndx, hs⟩ := M.n
    unfold stripO at hs
    refine ⟨_, (pss_cons (ps_set (i := 2) sc_stop_refusal.nd rfl (Or.inl rfl) (pe_fld (pv 0) rfl))
  (pss_cons (ps_if (pt_cmpR op_isN (pe_fld (pv 2) rfl) pe_non (nomark _))
  (pss_one (ps_ret pe_non))
  pss_nil)
  (pss_one (ps_ret (pe_tup (pa_cons (pe_ix ix_tup (pv 1) pe_int (fun _ _ => rfl)) (pa_cons (pe_op op_add (pe_fld (pv 2) rfl) (pe_fld (pv 2) rfl)) (pa_cons (pe_dget hu (pe_fld (pv 2) rfl) (pe_fld (pv 2) rfl) (fun _ _ => rfl)) pa_nil)))))))), ?_⟩
    rcases h with ⟨hc, k⟩ | ⟨l, f, hc, hv, k⟩
    · rw [hc] at hs
      exact ⟨_, rfl, _, _, _, _, _, rfl, B0, T.c_Bench, T.n_Bench_now, L_Bench_now, _, rfl, _, _, _, _, _, rfl, hs, T.c_Strip, T.n_Strip_cut, L_Strip_cut, rfl, _, rfl, iteT k⟩
    · rw [hc] at hs
      refine ⟨_, rfl, _, _, _, _, _, rfl, B0, T.c_Bench, T.n_Bench_now, L_Bench_now, _, rfl, _, _, _, _, _, rfl, hs, T.c_Strip, T.n_Strip_cut, L_Strip_cut, rfl, _, rfl, iteF ?_⟩
      refine ⟨_, rfl, a, _, _, .int n, rfl, rfl, seqt ha, rfl, _, rfl, _, _, _, _, _, rfl, hs, T.c_Strip, T.n_Strip_base, L_Strip_base, _, rfl, _, _, _, _, _, rfl, hs, T.c_Strip, T.n_Strip_cut, L_Strip_cut, _, _, rfl, rfl, _, rfl, _, _, _, _, _, rfl, hs, T.c_Strip, T.n_Strip_faults, L_Strip_faults, _, rfl, _, _, _, _, _, rfl, hs, T.c_Strip, T.n_Strip_cut, L_Strip_cut, t.f, .str f, rfl, ?_, (by show 3 ≤ sizeLine; decide), fun p hp => k p _ hp (same_new hp) upd_same⟩
      have d := DGet.k (k := Sum.inl (l : Int)) M.f
      rw [hv] at d
      exact d
theorem sc_save_lanes : FnScope ["bench", "step", "lane"] ["bench", "step"] (defScope s_save_lanes) := ⟨rfl, rfl, rfl, by decide +kernel, rfl, by decide +kernel, by decide +kernel⟩
theorem bi_save_lanes {K : PySem.W.Frag} {f : Addr} {fd : FuncData} (F : FunD K "save_lanes" "save_lanes" (defArgs s_save_lanes) (defBody s_save_lanes) (defScope s_save_lanes) [] [] f fd) : Binds K fd ["bench", "step"] [] := F.bindsN fun _ _ _ _ _ _ us hl => match us, hl with | [_, _], _ => rfl
theorem ok_save_lanes (T : Tx K mg) : Gd P w K mg base CX0 3 (He.fAd K ("save_lanes", none)) ["bench", "step"] [] (spSave K) := by
  obtain ⟨fd_active_lanes, G_active_lanes, p_active_lanes, ds_active_lanes, v_active_lanes, b_active_lanes⟩ := ok_active_lanes (P := P) (w := w) (base := base) T
  obtain ⟨fd_write_slot, G_write_slot, p_write_slot, ds_write_slot, v_write_slot, b_write_slot⟩ := ok_write_slot (P := P) (w := w) (base := base) T
  obtain ⟨fd_seat_number, G_seat_number, p_seat_number, ds_seat_number, v_seat_number, b_seat_number⟩ := ok_seat_number (P := P) (w := w) (base := base) T
  refine gd_mk T.d_save_lanes sc_save_lanes (fun F => bn (bi_save_lanes F)) (fun vs H Q E h => ?_) (fun cdv A outer s H vs Q E hr h => ?_)
  · obtain ⟨_, _, _, _, _, rfl, _⟩ := h
    rfl
  · obtain ⟨L, S, t, a, p, rfl, ha, M, hseat, hts, k⟩ := h
    have ln := M.b.nlanes
    have hw := M.gl
    refine ⟨_, (pss_one (ps_for PassesOwn.never rfl (pi_list (pe_call G_active_lanes (hr.mono (by decide)) rfl T.g_active_lanes p_active_lanes b_active_lanes v_active_lanes pass0 (pa_cons (pv 0) (pa_cons (pe_ix ix_tup (pv 1) pe_int (fun _ _ => rfl)) pa_nil)))) (pg_name (i := 2) sc_save_lanes.nd rfl (Or.inl rfl))
  (pss_one (ps_expr (pe_call G_write_slot (hr.mono (by decide)) rfl T.g_write_slot p_write_slot b_write_slot v_write_slot pass0 (pa_cons (pv 0) (pa_cons (pe_ix ix_tup (pv 1) pe_int (fun _ _ => rfl)) (pa_cons (pv 2) (pa_cons (pe_call G_seat_number (hr.mono (by decide)) rfl T.g_seat_number p_seat_number b_seat_number v_seat_number pass0 (pa_cons (pv 0) (pa_cons (pe_ix ix_tup (pv 1) pe_int (fun _ _ => rfl)) (pa_cons (pv 2) pa_nil)))) pa_nil))))))))), ?_⟩
    refine ⟨_, rfl, _, rfl, a, _, _, .int 0, rfl, rfl, seqt ha, rfl, L, S, t, rfl, M, fun q H1 hq e1 hl => ?_⟩
    refine ⟨q, rfl, ⟨_, seql hl⟩, for_list (K := K) (a := q) (xs := (acts t).map fun j => V.int (j : Nat)) (fun i σ H2 => ∃ (v1 : Option V) (slot : List Int) (ts : List V), σ = [some (.ref L.b), some (.ref a), v1] ∧ Mach K L { S with touches := ts, slot := slot } t H2 ∧ Fr L H1 H2 ∧ ts.length ≤ S.touches.length + i ∧
      ∀ m l, m < i → (acts t)[m]? = some l → slot[l]? = some (sv S.lanes t.g S.rows p l)) ?_ ?_ ?_ ?_⟩
    · exact ⟨_, S.slot, S.touches, rfl, M.same e1, Fr.refl L H1, Nat.le_refl _, fun m l h => absurd h (Nat.not_lt_zero m)⟩
    · rintro i σ H2 hi ⟨v1, slot, ts, rfl, M2, f2, l2, hs⟩
      exact seql (f2 q _ hl fun z => M.fresh hq (.inl z))
    · rintro i x σ H2 hx ⟨v1, slot, ts, rfl, M2, f2, l2, hs⟩
      obtain ⟨l, rfl, hil, hlw, hlf⟩ := acts_at hx
      have ha2 : H2 a = some _ := f2 a _ (e1 _ _ ha) fun z => M.notOwn ha (.inl z)
      have hil2 : i < (acts t).length := (List.getElem?_eq_some_iff.mp hil).1
      have hal := acts_le (t := t)
      have hsl : l < slot.length := by
        have := M2.b.nslot
        have h4 := Nat.mul_le_mul_right S.lanes M.g4
        show l < slot.length
        have h5 : slot.length = 4 * S.lanes := this
        omega
      refine ⟨_, rfl, _, rfl, a, _, _, .int 0, rfl, rfl, seqt ha2, rfl, _, rfl, _, rfl, _, rfl, a, _, _, .int p, rfl, rfl, seqt ha2, rfl, _, rfl, L, { S with touches := ts, slot := slot }, t, p, l, rfl, M2, seat_lt hseat (show l < t.g * S.lanes by omega) ln.1, ?_⟩
      refine ⟨L, { S with touches := ts, slot := slot }, t, l, _, rfl, M2, hsl, by show ts.length < _; omega, fun H3 ts3 e3 M3 f3 => ?_⟩
      refine ⟨_, slot.set l (sv S.lanes t.g S.rows p l), ts3, rfl, M3, f2.trans f3, by show ts3.length ≤ _; have e3' : ts3.length = ts.length + 1 := e3; omega, fun m j hm hj => ?_⟩
      by_cases e : m = i
      · subst e
        rw [hil] at hj
        cases hj
        rw [List.getElem?_set_self hsl]
      · have hlj : l ≠ j := fun z => e (nd_ix acts_nodup hj (by rw [← z]; exact hil))
        rw [List.getElem?_set_ne hlj]
        exact hs m j (by omega) hj
    · rintro σ H2 ⟨v1, slot, ts, rfl, M2, f2, l2, hs⟩
      have hal := acts_le (t := t)
      rw [List.length_map] at l2 hs
      refine k H2 slot ts M2 ((Fr.of_same e1).trans f2) (by omega) fun l h1 h2 => ?_
      obtain ⟨i, hi, e⟩ := acts_in h1 h2
      exact hs i l hi e
theorem sc_store_lanes : FnScope ["bench", "step", "lane"] ["bench", "step"] (defScope s_store_lanes) := ⟨rfl, rfl, rfl, by decide +kernel, rfl, by decide +kernel, by decide +kernel⟩
theorem bi_store_lanes {K : PySem.W.Frag} {f : Addr} {fd : FuncData} (F : FunD K "store_lanes" "store_lanes" (defArgs s_store_lanes) (defBody s_store_lanes) (defScope s_store_lanes) [] [] f fd) : Binds K fd ["bench", "step"] [] := F.bindsN fun _ _ _ _ _ _ us hl => match us, hl with | [_, _], _ => rfl
theorem ok_store_lanes (T : Tx K mg) : Gd P w K mg base CX0 3 (He.fAd K ("store_lanes", none)) ["bench", "step"] [] (spStore K) := by
  obtain ⟨fd_active_lanes, G_active_lanes, p_active_lanes, ds_active_lanes, v_active_lanes, b_active_lanes⟩ := ok_active_lanes (P := P) (w := w) (base := base) T
  obtain ⟨fd_write_cell, G_write_cell, p_write_cell, ds_write_cell, v_write_cell, b_write_cell⟩ := ok_write_cell (P := P) (w := w) (base := base) T
  obtain ⟨fd_seat_number, G_seat_number, p_seat_number, ds_seat_number, v_seat_number, b_seat_number⟩ := ok_seat_number (P := P) (w := w) (base := base) T
  refine gd_mk T.d_store_lanes sc_store_lanes (fun F => bn (bi_store_lanes F)) (fun vs H Q E h => ?_) (fun cdv A outer s H vs Q E hr h => ?_)
  · obtain ⟨_, _, _, _, _, _, rfl, _⟩ := h
    rfl
  · obtain ⟨L, S, t, a, r, p, rfl, ha, M, hseat, hts, hr0, hin, k⟩ := h
    have ln := M.b.nlanes
    have hw := M.gl
    refine ⟨_, (pss_one (ps_for PassesOwn.never rfl (pi_list (pe_call G_active_lanes (hr.mono (by decide)) rfl T.g_active_lanes p_active_lanes b_active_lanes v_active_lanes pass0 (pa_cons (pv 0) (pa_cons (pe_ix ix_tup (pv 1) pe_int (fun _ _ => rfl)) pa_nil)))) (pg_name (i := 2) sc_store_lanes.nd rfl (Or.inl rfl))
  (pss_one (ps_expr (pe_call G_write_cell (hr.mono (by decide)) rfl T.g_write_cell p_write_cell b_write_cell v_write_cell pass0 (pa_cons (pv 0) (pa_cons (pe_ix ix_tup (pv 1) pe_int (fun _ _ => rfl)) (pa_cons (pe_op op_add (pe_fld (pe_fld (pv 0) rfl) rfl) (pv 2)) (pa_cons (pe_call G_seat_number (hr.mono (by decide)) rfl T.g_seat_number p_seat_number b_seat_number v_seat_number pass0 (pa_cons (pv 0) (pa_cons (pe_ix ix_tup (pv 1) pe_int (fun _ _ => rfl)) (pa_cons (pv 2) pa_nil)))) pa_nil))))))))), ?_⟩
    refine ⟨_, rfl, _, rfl, a, _, _, .int 0, rfl, rfl, seqt ha, rfl, L, S, t, rfl, M, fun q H1 hq e1 hl => ?_⟩
    refine ⟨q, rfl, ⟨_, seql hl⟩, for_list (K := K) (a := q) (xs := (acts t).map fun j => V.int (j : Nat)) (fun i σ H2 => ∃ (v1 : Option V) (cells : List Int) (ts : List V), σ = [some (.ref L.b), some (.ref a), v1] ∧ Mach K L { S with touches := ts, cells := cells } t H2 ∧ Fr L H1 H2 ∧ ts.length ≤ S.touches.length + i ∧ cells.length = S.cells.length ∧
      (∀ m l, m < i → (acts t)[m]? = some l → ∀ j : Nat, startOf S r + ((t.base : Int) + (l : Int)) = j → cells[j]? = some (sv S.lanes t.g S.rows p l)) ∧
      (∀ j : Nat, (∀ l, l < t.width → Fine t.kvs l = true → startOf S r + ((t.base : Int) + (l : Int)) ≠ j) → cells[j]? = S.cells[j]?)) ?_ ?_ ?_ ?_⟩
    · exact ⟨_, S.cells, S.touches, rfl, M.same e1, Fr.refl L H1, Nat.le_refl _, rfl, fun m l h => absurd h (Nat.not_lt_zero m), fun j _ => rfl⟩
    · rintro i σ H2 hi ⟨v1, cells, ts, rfl, M2, f2, l2, hlen, hs, ho⟩
      exact seql (f2 q _ hl fun z => M.fresh hq (.inl z))
    · rintro i x σ H2 hx ⟨v1, cells, ts, rfl, M2, f2, l2, hlen, hs, ho⟩
      obtain ⟨l, rfl, hil, hlw, hlf⟩ := acts_at hx
      have ha2 : H2 a = some _ := f2 a _ (e1 _ _ ha) fun z => M.notOwn ha (.inl z)
      have hil2 : i < (acts t).length := (List.getElem?_eq_some_iff.mp hil).1
      have hal := acts_le (t := t)
      have B0 := M2.b.b
      rw [show ({ S with touches := ts, cells := cells } : MS).now = _ from M2.now] at B0
      obtain ⟨ndx, hs2⟩ := M2.n
      obtain ⟨j0, ej0, hj0⟩ := hin l hlw hlf
      refine ⟨_, rfl, _, rfl, a, _, _, .int r, rfl, rfl, seqt ha2, rfl, _, rfl, _, _, _, _, _, rfl, B0, T.c_Bench, T.n_Bench_now, L_Bench_now, _, _, _, _, _, rfl, hs2, T.c_Strip, T.n_Strip_base, L_Strip_base, _, rfl, _, _, rfl, rfl, _, rfl, _, rfl, a, _, _, .int p, rfl, rfl, seqt ha2, rfl, _, rfl, L, { S with touches := ts, cells := cells }, t, p, l, rfl, M2, seat_lt hseat (show l < t.g * S.lanes by omega) ln.1, ?_⟩
      refine ⟨L, { S with touches := ts, cells := cells }, t, r, _, j0, _, rfl, M2, hr0, ej0, by show j0 < cells.length; omega, by show ts.length < _; omega, fun H3 ts3 e3 M3 f3 => ?_⟩
      refine ⟨_, cells.set j0 (sv S.lanes t.g S.rows p l), ts3, rfl, M3, f2.trans f3, by show ts3.length ≤ _; have e3' : ts3.length = ts.length + 1 := e3; omega, by rw [List.length_set]; exact hlen, fun m j hm hj jj hjj => ?_, fun j hj => ?_⟩
      · by_cases e : m = i
        · subst e
          rw [hil] at hj
          cases hj
          have : jj = j0 := by omega
          subst this
          rw [List.getElem?_set_self (by omega)]
        · have hlj : l ≠ j := fun z => e (nd_ix acts_nodup hj (by rw [← z]; exact hil))
          rw [List.getElem?_set_ne (by omega)]
          exact hs m j (by omega) hj jj hjj
      · rw [List.getElem?_set_ne (by have := hj l hlw hlf; omega)]
        exact ho j hj
    · rintro σ H2 ⟨v1, cells, ts, rfl, M2, f2, l2, hlen, hs, ho⟩
      have hal := acts_le (t := t)
      rw [List.length_map] at l2 hs
      refine k H2 cells ts M2 ((Fr.of_same e1).trans f2) (by omega) hlen (fun l h1 h2 => ?_) ho
      obtain ⟨i, hi, e⟩ := acts_in h1 h2
      exact hs i l hi e
end
end Rb
set_option Elab.async false
set_option linter.all false
set_option maxRecDepth 100000
set_option maxHeartbeats 4000000
/-! strips begin, steps are played -/
namespace Rb
open PySem PySem.Spec PyProof.Rows L2
def spStripInit (K : PySem.W.Frag) : Sp := fun vs H Q _ => ∃ (p dx : Addr) (m g b w : V), vs = [.ref p, m, g, b, w] ∧ H p = some (.ins (C_Strip K) dx []) ∧
  ∀ f H', H f = none → H' p = some (.ins (C_Strip K) dx (F_Strip m g b w w (.ref f) .non)) → H' f = some (.dK []) → (∀ a o, H a = some o → a ≠ p → H' a = some o) → Q .non H'
def stripAt0 (n f : Addr) (many g base lanes : Nat) : ST := ⟨n, f, many, g, base, min (many - base) (g * lanes), min (many - base) (g * lanes), [], .non⟩
/-- what a new strip leaves -/
def Begun (K : PySem.W.Frag) (L : Lay) (S : MS) (H : Hp) (many g base : Nat) (k : Hp → List Bool → Nat → Addr → Addr → Prop) : Prop :=
  ∀ H' mask sp n f, Mach K L { S with mask := mask, spent := sp, now := .ref n } (stripAt0 n f many g base S.lanes) H' → Fr L H H' → H n = none → H f = none → k H' mask sp n f
def spBegin (K : PySem.W.Frag) : Sp := fun vs H Q _ => ∃ (L : Lay) (S : MS) (many g base : Nat), vs = [.ref L.b, .int many, .int g, .int base] ∧ BenchAt K L S H ∧ 1 ≤ g ∧ g ≤ 4 ∧ base < many ∧ many ≤ 400 ∧ S.stock.length ≤ 1000 ∧ Begun K L S H many g base fun H' _ _ _ _ => Q .non H'
def courseO (K : PySem.W.Frag) (dx : Addr) (ahead opened : Int) (tr : V) : HO := .ins (C_Course K) dx (F_Course (.int ahead) (.int opened) tr)
def spRound (K : PySem.W.Frag) : Sp := fun vs H Q _ => ∃ (L : Lay) (S : MS) (c a dx : Addr) (ahead opened : Int) (tr : V) (many g : Nat), vs = [.ref L.b, .ref c, .ref a] ∧ H a = some (.tup [.str "begin", .int many, .int g]) ∧ H c = some (courseO K dx ahead opened tr) ∧ BenchAt K L S H ∧ 1 ≤ g ∧ g ≤ 4 ∧ 0 < many ∧ many ≤ 400 ∧ S.stock.length ≤ 1000 ∧
  Begun K L S (upd H c (courseO K dx ahead ahead tr)) many g 0 fun H' _ _ _ _ => Q .non H'
def spNext (K : PySem.W.Frag) : Sp := fun vs H Q _ => ∃ (L : Lay) (S : MS) (t : ST) (c dx : Addr) (ahead opened : Int) (tr : V), vs = [.ref L.b, .ref c] ∧ H c = some (courseO K dx ahead opened tr) ∧ Mach K L S t H ∧ S.stock.length ≤ 1000 ∧
  (t.base + t.began < t.many → Begun K L S H t.many t.g (t.base + t.began) fun H' _ _ _ _ => H' c = some (courseO K dx ahead opened tr) → Q .non (upd H' c (courseO K dx opened opened tr))) ∧ (¬ t.base + t.began < t.many → Q .non H)
theorem BenchAt.fresh {K : PySem.W.Frag} {L : Lay} {S : MS} {H : Hp} (B : BenchAt K L S H) {p : Addr} (h : H p = none) : ¬ Own L p := by
  rintro (e | e | e | e | e | e | ⟨i, hi, e⟩)
  · rw [e, B.b] at h; cases h
  · rw [e, B.cells] at h; cases h
  · rw [e, B.m0] at h; cases h
  · rw [e, B.s0] at h; cases h
  · rw [e, B.du] at h; cases h
  · rw [e, B.tch] at h; cases h
  · rw [e, B.row i hi] at h; cases h
section
variable {P : Program} {w : World} {K : PySem.W.Frag} {mg : Str → Option Value} {base : Heap}
theorem sc_Strip_init : FnScope ["self", "many", "group", "base", "width"] ["self", "many", "group", "base", "width"] (defScope s_Strip_init) := ⟨rfl, rfl, rfl, by decide +kernel, rfl, by decide +kernel, by decide +kernel⟩
theorem bi_Strip_init {K : PySem.W.Frag} {f : Addr} {fd : FuncData} (F : FunD K "__init__" "Strip.__init__" (defArgs s_Strip_init) (defBody s_Strip_init) (defScope s_Strip_init) [] [] f fd) : Binds K fd ["self", "many", "group", "base", "width"] [] := F.bindsN fun _ _ _ _ _ _ us hl => match us, hl with | [_, _, _, _, _], _ => rfl
theorem ok_Strip_init (T : Tx K mg) : Gd P w K mg base CX0 1 (He.fAd K ("Strip", some "__init__")) ["self", "many", "group", "base", "width"] [] (spStripInit K) := by
  refine gd_mk T.d_Strip_init sc_Strip_init (fun F => bn (bi_Strip_init F)) (fun vs H Q E h => ?_) (fun cdv A outer s H vs Q E hr h => ?_)
  · obtain ⟨_, _, _, _, _, _, rfl, _⟩ := h
    rfl
  · obtain ⟨p, dx, m, g, b, wd, rfl, hp, k⟩ := h
    refine ⟨_, (pss_cons (ps_fld (pv 0) (pv 1) rfl)
  (pss_cons (ps_fld (pv 0) (pv 2) rfl)
  (pss_cons (ps_fld (pv 0) (pv 3) rfl)
  (pss_cons (ps_fld (pv 0) (pv 4) rfl)
  (pss_cons (ps_fld (pv 0) (pv 4) rfl)
  (pss_cons (ps_fld (pv 0) pe_dnewK rfl)
  (pss_one (ps_fld (pv 0) pe_non rfl)))))))), ?_⟩
    refine ⟨_, rfl, _, rfl, _, _, _, _, rfl, hp, T.c_Strip, T.n_Strip_many, J_Strip_0, ?_⟩
    rw [I_Strip_0]
    refine ⟨_, rfl, _, rfl, _, _, _, _, rfl, upd_same, T.c_Strip, T.n_Strip_group, J_Strip_1, ?_⟩
    rw [I_Strip_1, upd_upd]
    refine ⟨_, rfl, _, rfl, _, _, _, _, rfl, upd_same, T.c_Strip, T.n_Strip_base, J_Strip_2, ?_⟩
    rw [I_Strip_2, upd_upd]
    refine ⟨_, rfl, _, rfl, _, _, _, _, rfl, upd_same, T.c_Strip, T.n_Strip_began, J_Strip_3, ?_⟩
    rw [I_Strip_3, upd_upd]
    refine ⟨_, rfl, _, rfl, _, _, _, _, rfl, upd_same, T.c_Strip, T.n_Strip_width, J_Strip_4, ?_⟩
    rw [I_Strip_4, upd_upd]
    intro f hf
    have npf : p ≠ f := fun e => by
      rw [← e, upd_same] at hf
      cases hf
    have hf0 : H f = none := by rw [upd_ne npf.symm] at hf; exact hf
    refine ⟨_, rfl, _, _, _, _, rfl, (upd_ne npf).trans upd_same, T.c_Strip, T.n_Strip_faults, J_Strip_5, ?_⟩
    rw [I_Strip_5]
    refine ⟨_, rfl, _, _, _, _, rfl, upd_same, T.c_Strip, T.n_Strip_cut, J_Strip_6, ?_⟩
    rw [I_Strip_6, upd_upd]
    refine k f _ hf0 upd_same ((upd_ne npf.symm).trans upd_same) fun a o ha hne => ?_
    rw [upd_ne hne, upd_ne (ne_of_none ha hf0), upd_ne hne]
    exact ha
theorem sc_begin_strip : FnScope ["bench", "many", "group", "base", "width", "lane"] ["bench", "many", "group", "base"] (defScope s_begin_strip) := ⟨rfl, rfl, rfl, by decide +kernel, rfl, by decide +kernel, by decide +kernel⟩
theorem bi_begin_strip {K : PySem.W.Frag} {f : Addr} {fd : FuncData} (F : FunD K "begin_strip" "begin_strip" (defArgs s_begin_strip) (defBody s_begin_strip) (defScope s_begin_strip) [] [] f fd) : Binds K fd ["bench", "many", "group", "base"] [] := F.bindsN fun _ _ _ _ _ _ us hl => match us, hl with | [_, _, _, _], _ => rfl
theorem ok_begin_strip (T : Tx K mg) : Gd P w K mg base CX0 3 (He.fAd K ("begin_strip", none)) ["bench", "many", "group", "base"] [] (spBegin K) := by
  obtain ⟨fd_Strip_init, G_Strip_init, p_Strip_init, ds_Strip_init, v_Strip_init, b_Strip_init⟩ := ok_Strip_init (P := P) (w := w) (base := base) T
  obtain ⟨fd_Feed_taken, G_Feed_taken, p_Feed_taken, ds_Feed_taken, v_Feed_taken, b_Feed_taken⟩ := ok_taken (P := P) (w := w) (base := base) T
  refine gd_mk T.d_begin_strip sc_begin_strip (fun F => bn (bi_begin_strip F)) (fun vs H Q E h => ?_) (fun cdv A outer s H vs Q E hr h => ?_)
  · obtain ⟨_, _, _, _, _, rfl, _⟩ := h
    rfl
  · obtain ⟨L, S, many, g, bs, rfl, B, hg1, hg4, hbm, hm, hstk, k⟩ := h
    have ln := B.nlanes
    have hgl : g * S.lanes ≤ 64 := Nat.le_trans (Nat.mul_le_mul hg4 ln.2) (by decide)
    refine ⟨_, (pss_cons (ps_set (i := 4) sc_begin_strip.nd rfl (Or.inl rfl) (pe_callB (call_min2 rfl) (by rfl) T.b_min (by decide +kernel) (pa_cons (pe_op op_sub (pv 1) (pv 3)) (pa_cons (pe_op op_mul (pv 2) (pe_fld (pv 0) rfl)) pa_nil))))
  (pss_cons (ps_fld (pv 0) (pe_make T.k_Strip G_Strip_init (hr.mono (by decide)) rfl T.g_Strip b_Strip_init v_Strip_init pass0 (pa_cons (pv 1) (pa_cons (pv 2) (pa_cons (pv 3) (pa_cons (pv 4) pa_nil))))) rfl)
  (pss_one (ps_for PassesOwn.never rfl (pi_range1 rfl T.b_range (pa_cons (pe_op op_mul (pv 2) (pe_fld (pv 0) rfl)) pa_nil)) (pg_name (i := 5) sc_begin_strip.nd rfl (Or.inl rfl))
  (pss_one (ps_if (pt_cmpR op_lt (pv 5) (pv 4) (nomark _))
  (pss_one (ps_asg pe_bl (pg_sub (pe_ix ix_list (pe_fld (pv 0) rfl) pe_int (fun _ _ => rfl)) (pv 5) set_list)))
  (pss_one (ps_asg (pe_cmpR op_eq (pe_op op_mod (pe_meth0 (pe_fld (pv 0) rfl) T.c_Feed T.m_Feed_taken G_Feed_taken (hr.mono (by decide)) b_Feed_taken v_Feed_taken pass0) pe_int) pe_int (nomark _)) (pg_sub (pe_ix ix_list (pe_fld (pv 0) rfl) pe_int (fun _ _ => rfl)) (pv 5) set_list))))))))), ?_⟩
    refine ⟨_, rfl, _, rfl, _, _, rfl, rfl, _, rfl, _, rfl, _, _, _, _, _, rfl, B.b, T.c_Bench, T.n_Bench_lanes, L_Bench_lanes, _, _, rfl, rfl, .inl ⟨by omega, by omega⟩, _, _, rfl, ?_⟩
    have ew : (if (g : Int) * (S.lanes : Int) < (many : Int) - (bs : Int) then (g : Int) * (S.lanes : Int) else (many : Int) - (bs : Int)) = ((min (many - bs) (g * S.lanes) : Nat) : Int) := by
      rw [← Int.natCast_mul]
      split <;> omega
    rw [ew]
    generalize hwd : min (many - bs) (g * S.lanes) = wd
    refine ⟨_, rfl, _, rfl, _, rfl, _, rfl, fun x dx hx hdx hne => ⟨x, dx, _, _, _, _, rfl, upd_same, fun f H1 hf h1 h2 hk => ⟨rfl, ?_⟩⟩⟩
    have s1 : Same H H1 := Same.made hx hdx hk
    have B1 := B.same s1
    have hf0 : H f = none := by
      cases q : H f with
      | none => rfl
      | some o =>
        have nx : f ≠ x := ne_of_none q hx
        have nd : f ≠ dx := ne_of_none q hdx
        rw [upd_ne nx, upd_ne nd, q] at hf
        cases hf
    refine ⟨_, rfl, _, _, _, _, rfl, B1.b, T.c_Bench, T.n_Bench_now, N_Bench, ?_⟩
    rw [P_Bench_now]
    have B2 := B1.setB S.place (.ref x)
    have f2 : Fr L H _ := (Fr.of_same s1).upd (o := .ins (C_Bench K) L.bdx (F_Bench (.ref L.lens) (.ref L.cells) (.int S.lanes) (.ref L.bx) (.ref L.ml) (.ref L.sl) (.ref L.du) (.ref L.pk) (.int S.place) (.ref L.tch) (.ref x) .non (.bl false))) (Or.inl rfl)
    have x2 := (upd_ne (o := .ins (C_Bench K) L.bdx (F_Bench (.ref L.lens) (.ref L.cells) (.int S.lanes) (.ref L.bx) (.ref L.ml) (.ref L.sl) (.ref L.du) (.ref L.pk) (.int S.place) (.ref L.tch) (.ref x) .non (.bl false))) (kd_ne h1 B1.b (by show 2 + 7 ≠ 2 + 13; decide))).trans h1
    have z2 := (upd_ne (o := .ins (C_Bench K) L.bdx (F_Bench (.ref L.lens) (.ref L.cells) (.int S.lanes) (.ref L.bx) (.ref L.ml) (.ref L.sl) (.ref L.du) (.ref L.pk) (.int S.place) (.ref L.tch) (.ref x) .non (.bl false))) (kd_ne h2 B1.b (by show 1 ≠ 2 + 13; decide))).trans h2
    refine ⟨_, rfl, _, rfl, _, _, _, _, _, rfl, B2.b, T.c_Bench, T.n_Bench_lanes, L_Bench_lanes, _, _, rfl, rfl, .inl ⟨by omega, by omega⟩, _, rfl, ?_, ?_, ?_⟩
    · show -(2 ^ 62) ≤ (g : Int) * (S.lanes : Int)
      rw [← Int.natCast_mul]
      omega
    · show (g : Int) * (S.lanes : Int) < 2 ^ 62
      rw [← Int.natCast_mul]
      omega
    have en : ((g : Int) * (S.lanes : Int)).toNat = g * S.lanes := by
      rw [← Int.natCast_mul]
      exact Int.toNat_natCast _
    show ∃ W, _
    rw [en]
    refine for_range (lo := 0) (n := g * S.lanes) (fun i σ H2 => ∃ (mask : List Bool) (sp : Nat) (v1 : Option V), σ = [some (.ref L.b), some (.int many), some (.int g), some (.int bs), some (.int wd), v1] ∧ BenchAt K L { S with mask := mask, spent := sp, now := .ref x } H2 ∧ Fr L H H2 ∧
      H2 x = some (.ins (C_Strip K) dx (F_Strip (.int many) (.int g) (.int bs) (.int wd) (.int wd) (.ref f) .non)) ∧ H2 f = some (.dK []) ∧ ∀ j, j < i → j < wd → mask[j]? = some true) ?_ ?_ ?_
    · exact ⟨S.mask, S.spent, _, rfl, B2, f2, x2, z2, fun j h => absurd h (Nat.not_lt_zero j)⟩
    · rintro i σ H3 hi ⟨mask, sp, v1, rfl, B3, f3, x3, z3, hm3⟩
      rw [show (0 : Int) + (i : Int) = (i : Int) from Int.zero_add _]
      have nm : mask.length = 4 * S.lanes := B3.nmask
      have him : i < mask.length := by
        have := Nat.mul_le_mul_right S.lanes hg4
        omega
      refine ⟨_, rfl, _, rfl, _, _, rfl, rfl, _, rfl, ?_⟩
      by_cases hlt : i < wd
      · rw [decide_eq_true (show (i : Int) < (wd : Int) by omega)]
        refine iteT ?_
        refine ⟨_, rfl, _, _, _, _, _, rfl, B3.b, T.c_Bench, T.n_Bench_masks, L_Bench_masks, L.ml, L.mlv, _, .ref L.m0, rfl, rfl, seql B3.ml, atI_nat (j := 0) B3.mlv, _, rfl, L.m0, _, _, i, rfl, rfl, B3.m0, ixN_nat (by rw [List.length_map]; exact him), ?_⟩
        have B4 := B3.setMask (mask.set i true) (by rw [List.length_set]; exact nm)
        rw [List.map_set] at B4
        refine ⟨mask.set i true, sp, _, rfl, B4, f3.upd (.inr (.inr (.inl rfl))), (upd_ne (kd_ne x3 B3.m0 (by show 2 + 7 ≠ 0; decide))).trans x3, (upd_ne (kd_ne z3 B3.m0 (by show 1 ≠ 0; decide))).trans z3, fun j hj hjw => ?_⟩
        by_cases e : j = i
        · subst e
          rw [List.getElem?_set_self him]
        · rw [List.getElem?_set_ne (Ne.symm e)]
          exact hm3 j (by omega) hjw
      · rw [decide_eq_false (show ¬ (i : Int) < (wd : Int) by omega)]
        refine iteF ?_
        refine ⟨_, rfl, _, _, _, _, _, rfl, B3.b, T.c_Bench, T.n_Bench_dust, L_Bench_dust, L.du, L.dudx, _, rfl, B3.du, by kernel_rfl, L.du, L.dst, L.dudx, S.stock, sp, rfl, B3.du, B3.dst, kd_ne B3.du B3.dst (by show 2 + 2 ≠ 0; decide), B3.nspent, hstk, fun z m hm => ?_⟩
        have B4 := B3.setSpent m hm
        refine ⟨_, _, rfl, rfl, (by show (0 : Int) < 2; decide), rfl, ?_⟩
        refine ⟨_, rfl, _, _, _, _, _, rfl, B4.b, T.c_Bench, T.n_Bench_masks, L_Bench_masks, L.ml, L.mlv, _, .ref L.m0, rfl, rfl, seql B4.ml, atI_nat (j := 0) B4.mlv, _, rfl, L.m0, _, _, i, rfl, rfl, B4.m0, ixN_nat (by rw [List.length_map]; exact him), ?_⟩
        have B5 := B4.setMask (mask.set i (decide (V.int (z % 2) = V.int 1))) (by rw [List.length_set]; exact nm)
        rw [List.map_set] at B5
        refine ⟨mask.set i (decide (V.int (z % 2) = V.int 1)), m, _, rfl, B5, (f3.upd (.inr (.inr (.inr (.inr (.inl rfl)))))).upd (.inr (.inr (.inl rfl))), ?_, ?_, fun j hj hjw => ?_⟩
        · rw [upd_ne (kd_ne x3 B3.m0 (by show 2 + 7 ≠ 0; decide)), upd_ne (kd_ne x3 B3.du (by show 2 + 7 ≠ 2 + 2; decide))]
          exact x3
        · rw [upd_ne (kd_ne z3 B3.m0 (by show 1 ≠ 0; decide)), upd_ne (kd_ne z3 B3.du (by show 1 ≠ 2 + 2; decide))]
          exact z3
        · rw [List.getElem?_set_ne (by omega)]
          exact hm3 j (by omega) hjw
    · rintro σ H3 ⟨mask, sp, v1, rfl, B3, f3, x3, z3, hm3⟩
      refine k H3 mask sp x f ?_ f3 hx hf0
      unfold stripAt0
      rw [hwd]
      exact ⟨B3, rfl, ⟨dx, x3⟩, z3, fun j hj => hm3 j (by have hj2 : j < wd := hj; omega) hj, Nat.le_refl _, by show wd ≤ g * S.lanes; omega, hg1, hg4, by show bs + wd ≤ many; omega, hm⟩
end
end Rb
set_option Elab.async false
set_option linter.all false
set_option maxRecDepth 100000
set_option maxHeartbeats 4000000
/-! rounds, strips, the play of one step -/
namespace Rb
open PySem PySem.Spec PyProof.Rows L2
def Stp.isLay : Stp → Prop
  | .save _ => False
  | _ => True
def spEffect (K : PySem.W.Frag) : Sp := fun vs H Q E => ∃ b a : Addr, vs = [.ref b, .ref a] ∧
  ((∃ st : Stp, H a = some (.tup st.v) ∧ st.isLay ∧ spLaySeat K [.ref b, .ref a] H (fun _ H' => Q .non H') E) ∨
   (∃ r, H a = some (.tup (.str "save" :: r)) ∧ spSave K [.ref b, .ref a] H (fun _ H' => Q .non H') E) ∨
   (∃ r, H a = some (.tup (.str "store" :: r)) ∧ spStore K [.ref b, .ref a] H (fun _ H' => Q .non H') E))
def spStep (K : PySem.W.Frag) : Sp := fun vs H Q E => ∃ b c a : Addr, vs = [.ref b, .ref c, .ref a] ∧
  ((∃ st : Stp, H a = some (.tup st.v) ∧ st.isLay ∧ spLaySeat K [.ref b, .ref a] H (fun _ H' => Q .non H') E) ∨
   (∃ r, H a = some (.tup (.str "save" :: r)) ∧ spSave K [.ref b, .ref a] H (fun _ H' => Q .non H') E) ∨
   (∃ r, H a = some (.tup (.str "store" :: r)) ∧ spStore K [.ref b, .ref a] H (fun _ H' => Q .non H') E) ∨
   (∃ r, H a = some (.tup (.str "begin" :: r)) ∧ spRound K [.ref b, .ref c, .ref a] H (fun _ H' => Q .non H') E) ∨
   (∃ r, H a = some (.tup (.str "next" :: r)) ∧ spNext K [.ref b, .ref c] H (fun _ H' => Q .non H') E) ∨
   (∃ r, H a = some (.tup (.str "trim" :: r)) ∧ spTrim K [.ref b] H (fun _ H' => Q .non H') E) ∨
   (∃ r, H a = some (.tup (.str "stop" :: r)) ∧ spStop K [.ref b, .ref a] H Q E))
section
variable {P : Program} {w : World} {K : PySem.W.Frag} {mg : Str → Option Value} {base : Heap}
theorem sc_begin_round : FnScope ["bench", "course", "step"] ["bench", "course", "step"] (defScope s_begin_round) := ⟨rfl, rfl, rfl, by decide +kernel, rfl, by decide +kernel, by decide +kernel⟩
theorem bi_begin_round {K : PySem.W.Frag} {f : Addr} {fd : FuncData} (F : FunD K "begin_round" "begin_round" (defArgs s_begin_round) (defBody s_begin_round) (defScope s_begin_round) [] [] f fd) : Binds K fd ["bench", "course", "step"] [] := F.bindsN fun _ _ _ _ _ _ us hl => match us, hl with | [_, _, _], _ => rfl
theorem ok_begin_round (T : Tx K mg) : Gd P w K mg base CX0 4 (He.fAd K ("begin_round", none)) ["bench", "course", "step"] [] (spRound K) := by
  obtain ⟨fd_begin_strip, G_begin_strip, p_begin_strip, ds_begin_strip, v_begin_strip, b_begin_strip⟩ := ok_begin_strip (P := P) (w := w) (base := base) T
  refine gd_mk T.d_begin_round sc_begin_round (fun F => bn (bi_begin_round F)) (fun vs H Q E h => ?_) (fun cdv A outer s H vs Q E hr h => ?_)
  · obtain ⟨_, _, _, _, _, _, _, _, _, _, rfl, _⟩ := h
    rfl
  · obtain ⟨L, S, c, a, dx, ahead, opened, tr, many, g, rfl, ha, hc, B, hg1, hg4, h0, hm, hstk, k⟩ := h
    refine ⟨_, (pss_cons (ps_fld (pv 0) pe_non rfl)
  (pss_cons (ps_fld (pv 1) (pe_fld (pv 1) rfl) rfl)
  (pss_one (ps_expr (pe_call G_begin_strip (hr.mono (by decide)) rfl T.g_begin_strip p_begin_strip b_begin_strip v_begin_strip pass0 (pa_cons (pv 0) (pa_cons (pe_ix ix_tup (pv 2) pe_int (fun _ _ => rfl)) (pa_cons (pe_ix ix_tup (pv 2) pe_int (fun _ _ => rfl)) (pa_cons pe_int pa_nil))))))))), ?_⟩
    refine ⟨_, rfl, _, _, _, _, rfl, B.b, T.c_Bench, T.n_Bench_carried, N_Bench, ?_⟩
    rw [P_Bench_carried, upd_id B.b]
    refine ⟨_, rfl, _, _, _, _, _, rfl, hc, T.c_Course, T.n_Course_ahead, L_Course_ahead, _, rfl, _, _, _, _, rfl, hc, T.c_Course, T.n_Course_opened, N_Course, ?_⟩
    rw [P_Course_opened]
    have ha2 := (upd_ne (o := courseO K dx ahead ahead tr) (kd_ne ha hc (by show 100 ≠ 2 + 3; decide))).trans ha
    have B2 := B.otherKd (o := courseO K dx ahead ahead tr) hc (by show 2 + 3 ≠ 0; decide) (by show 2 + 3 ≠ 4; decide) (by show 2 + 3 ≠ 15; decide)
    exact ⟨_, rfl, _, rfl, a, _, _, .int many, rfl, rfl, seqt ha2, rfl, _, rfl, a, _, _, .int g, rfl, rfl, seqt ha2, rfl, L, S, many, g, 0, rfl, B2, hg1, hg4, h0, hm, hstk, k⟩
theorem sc_next_strip : FnScope ["bench", "course", "now", "base"] ["bench", "course"] (defScope s_next_strip) := ⟨rfl, rfl, rfl, by decide +kernel, rfl, by decide +kernel, by decide +kernel⟩
theorem bi_next_strip {K : PySem.W.Frag} {f : Addr} {fd : FuncData} (F : FunD K "next_strip" "next_strip" (defArgs s_next_strip) (defBody s_next_strip) (defScope s_next_strip) [] [] f fd) : Binds K fd ["bench", "course"] [] := F.bindsN fun _ _ _ _ _ _ us hl => match us, hl with | [_, _], _ => rfl
theorem ok_next_strip (T : Tx K mg) : Gd P w K mg base CX0 4 (He.fAd K ("next_strip", none)) ["bench", "course"] [] (spNext K) := by
  obtain ⟨fd_begin_strip, G_begin_strip, p_begin_strip, ds_begin_strip, v_begin_strip, b_begin_strip⟩ := ok_begin_strip (P := P) (w := w) (base := base) T
  refine gd_mk T.d_next_strip sc_next_strip (fun F => bn (bi_next_strip F)) (fun vs H Q E h => ?_) (fun cdv A outer s H vs Q E hr h => ?_)
  · obtain ⟨_, _, _, _, _, _, _, _, rfl, _⟩ := h
    rfl
  · obtain ⟨L, S, t, c, dx, ahead, opened, tr, rfl, hc, M, hstk, k1, k0⟩ := h
    have B0 := M.b.b
    rw [M.now] at B0
    obtain ⟨ndx, hs⟩ := M.n
    refine ⟨_, (pss_cons (ps_set (i := 2) sc_next_strip.nd rfl (Or.inl rfl) (pe_fld (pv 0) rfl))
  (pss_cons (ps_set (i := 3) sc_next_strip.nd rfl (Or.inl rfl) (pe_op op_add (pe_fld (pv 2) rfl) (pe_fld (pv 2) rfl)))
  (pss_one (ps_if (pt_cmpR op_lt (pv 3) (pe_fld (pv 2) rfl) (nomark _))
  (pss_cons (ps_expr (pe_call G_begin_strip (hr.mono (by decide)) rfl T.g_begin_strip p_begin_strip b_begin_strip v_begin_strip pass0 (pa_cons (pv 0) (pa_cons (pe_fld (pv 2) rfl) (pa_cons (pe_fld (pv 2) rfl) (pa_cons (pv 3) pa_nil))))))
  (pss_one (ps_fld (pv 1) (pe_fld (pv 1) rfl) rfl)))
  pss_nil)))), ?_⟩
    refine ⟨_, rfl, _, _, _, _, _, rfl, B0, T.c_Bench, T.n_Bench_now, L_Bench_now, _, rfl, _, _, _, _, _, rfl, hs, T.c_Strip, T.n_Strip_base, L_Strip_base, _, rfl, _, _, _, _, _, rfl, hs, T.c_Strip, T.n_Strip_began, L_Strip_began, _, _, rfl, rfl, ?_⟩
    refine ⟨_, rfl, _, rfl, _, _, _, _, _, rfl, hs, T.c_Strip, T.n_Strip_many, L_Strip_many, _, _, rfl, rfl, _, rfl, ?_⟩
    by_cases hlt : t.base + t.began < t.many
    · rw [decide_eq_true (show (t.base : Int) + (t.began : Int) < (t.many : Int) by omega)]
      refine iteT ⟨_, rfl, _, rfl, _, _, _, _, _, rfl, hs, T.c_Strip, T.n_Strip_many, L_Strip_many, _, rfl, _, _, _, _, _, rfl, hs, T.c_Strip, T.n_Strip_group, L_Strip_group, _, rfl, L, S, t.many, t.g, t.base + t.began, ?_, M.b, M.g1, M.g4, hlt, M.mb, hstk, fun H' mask sp n f M' f' hn hf => ?_⟩
      · simp
      have hc' := f' c _ hc (M.b.notOwn hc (by show 2 + 3 ≠ 0; decide) (by show 2 + 3 ≠ 4; decide) (by show 2 + 3 ≠ 15; decide))
      refine ⟨_, rfl, _, _, _, _, _, rfl, hc', T.c_Course, T.n_Course_opened, L_Course_opened, _, rfl, _, _, _, _, rfl, hc', T.c_Course, T.n_Course_ahead, N_Course, ?_⟩
      rw [P_Course_ahead]
      exact k1 hlt H' mask sp n f M' f' hn hf hc'
    · rw [decide_eq_false (show ¬ (t.base : Int) + (t.began : Int) < (t.many : Int) by omega)]
      exact iteF (k0 hlt)
theorem sc_play_effect : FnScope ["bench", "step", "word"] ["bench", "step"] (defScope s_play_effect) := ⟨rfl, rfl, rfl, by decide +kernel, rfl, by decide +kernel, by decide +kernel⟩
theorem bi_play_effect {K : PySem.W.Frag} {f : Addr} {fd : FuncData} (F : FunD K "play_effect" "play_effect" (defArgs s_play_effect) (defBody s_play_effect) (defScope s_play_effect) [] [] f fd) : Binds K fd ["bench", "step"] [] := F.bindsN fun _ _ _ _ _ _ us hl => match us, hl with | [_, _], _ => rfl
theorem ok_play_effect (T : Tx K mg) : Gd P w K mg base CX0 7 (He.fAd K ("play_effect", none)) ["bench", "step"] [] (spEffect K) := by
  obtain ⟨fd_lay_seat, G_lay_seat, p_lay_seat, ds_lay_seat, v_lay_seat, b_lay_seat⟩ := ok_lay_seat (P := P) (w := w) (base := base) T
  obtain ⟨fd_save_lanes, G_save_lanes, p_save_lanes, ds_save_lanes, v_save_lanes, b_save_lanes⟩ := ok_save_lanes (P := P) (w := w) (base := base) T
  obtain ⟨fd_store_lanes, G_store_lanes, p_store_lanes, ds_store_lanes, v_store_lanes, b_store_lanes⟩ := ok_store_lanes (P := P) (w := w) (base := base) T
  refine gd_mk T.d_play_effect sc_play_effect (fun F => bn (bi_play_effect F)) (fun vs H Q E h => ?_) (fun cdv A outer s H vs Q E hr h => ?_)
  · obtain ⟨_, _, rfl, _⟩ := h
    rfl
  · obtain ⟨b, a, rfl, h⟩ := h
    refine ⟨_, (pss_cons (ps_set (i := 2) sc_play_effect.nd rfl (Or.inl rfl) (pe_ix ix_tup (pv 1) pe_int (fun _ _ => rfl)))
  (pss_one (ps_if (PW.pt (pw_or (pt_cmpR op_eq (pv 2) pe_str (nomark _)) (pw_or1 (pt_cmpR op_eq (pv 2) pe_str (nomark _)))))
  (pss_one ps_never)
  (pss_one (ps_if (pt_cmpR op_eq (pv 2) pe_str (nomark _))
  (pss_one ps_never)
  (pss_one (ps_if (pt_cmpR op_eq (pv 2) pe_str (nomark _))
  (pss_one (ps_expr (pe_call G_save_lanes (hr.mono (by decide)) rfl T.g_save_lanes p_save_lanes b_save_lanes v_save_lanes pass0 (pa_cons (pv 0) (pa_cons (pv 1) pa_nil)))))
  (pss_one (ps_if (pt_cmpR op_eq (pv 2) pe_str (nomark _))
  (pss_one (ps_expr (pe_call G_store_lanes (hr.mono (by decide)) rfl T.g_store_lanes p_store_lanes b_store_lanes v_store_lanes pass0 (pa_cons (pv 0) (pa_cons (pv 1) pa_nil)))))
  (pss_one (ps_if (pt_cmpR op_eq (pv 2) pe_str (nomark _))
  (pss_one ps_never)
  (pss_one (ps_if (pt_cmpR op_eq (pv 2) pe_str (nomark _))
  (pss_one ps_never)
  (pss_one (ps_if (pt_cmpR op_eq (pv 2) pe_str (nomark _))
  (pss_one ps_never)
  (pss_one (ps_if (pt_cmpR op_eq (pv 2) pe_str (nomark _))
  (pss_one ps_never)
  (pss_one (ps_expr (pe_call G_lay_seat (hr.mono (by decide)) rfl T.g_lay_seat p_lay_seat b_lay_seat v_lay_seat pass0 (pa_cons (pv 0) (pa_cons (pv 1) pa_nil)))))))))))))))))))))), ?_⟩
    rcases h with ⟨st, ha, hl, k⟩ | ⟨r, ha, k⟩ | ⟨r, ha, k⟩
    · cases st with
      | save p => exact hl.elim
      | _ =>
        refine ⟨_, rfl, a, _, _, _, rfl, rfl, seqt ha, rfl, ?_⟩
        refine ⟨_, rfl, rfl, _, rfl, iteF ⟨_, rfl, rfl, _, rfl, iteF ?_⟩⟩
        iterate 7 (refine ⟨_, rfl, rfl, _, rfl, iteF ?_⟩)
        exact ⟨_, rfl, _, rfl, k⟩
    · refine ⟨_, rfl, a, _, _, .str "save", rfl, rfl, seqt ha, atI_nat (j := 0) rfl, ?_⟩
      refine ⟨_, rfl, rfl, _, rfl, iteF ⟨_, rfl, rfl, _, rfl, iteF ?_⟩⟩
      iterate 1 (refine ⟨_, rfl, rfl, _, rfl, iteF ?_⟩)
      exact ⟨_, rfl, rfl, _, rfl, iteT ⟨_, rfl, _, rfl, k⟩⟩
    · refine ⟨_, rfl, a, _, _, .str "store", rfl, rfl, seqt ha, atI_nat (j := 0) rfl, ?_⟩
      refine ⟨_, rfl, rfl, _, rfl, iteF ⟨_, rfl, rfl, _, rfl, iteF ?_⟩⟩
      iterate 2 (refine ⟨_, rfl, rfl, _, rfl, iteF ?_⟩)
      exact ⟨_, rfl, rfl, _, rfl, iteT ⟨_, rfl, _, rfl, k⟩⟩
theorem sc_play_step : FnScope ["bench", "course", "step", "word"] ["bench", "course", "step"] (defScope s_play_step) := ⟨rfl, rfl, rfl, by decide +kernel, rfl, by decide +kernel, by decide +kernel⟩
theorem bi_play_step {K : PySem.W.Frag} {f : Addr} {fd : FuncData} (F : FunD K "play_step" "play_step" (defArgs s_play_step) (defBody s_play_step) (defScope s_play_step) [] [] f fd) : Binds K fd ["bench", "course", "step"] [] := F.bindsN fun _ _ _ _ _ _ us hl => match us, hl with | [_, _, _], _ => rfl
theorem ok_play_step (T : Tx K mg) : Gd P w K mg base CX0 8 (He.fAd K ("play_step", none)) ["bench", "course", "step"] [] (spStep K) := by
  obtain ⟨fd_begin_round, G_begin_round, p_begin_round, ds_begin_round, v_begin_round, b_begin_round⟩ := ok_begin_round (P := P) (w := w) (base := base) T
  obtain ⟨fd_next_strip, G_next_strip, p_next_strip, ds_next_strip, v_next_strip, b_next_strip⟩ := ok_next_strip (P := P) (w := w) (base := base) T
  obtain ⟨fd_trim_strip, G_trim_strip, p_trim_strip, ds_trim_strip, v_trim_strip, b_trim_strip⟩ := ok_trim_strip (P := P) (w := w) (base := base) T
  obtain ⟨fd_stop_refusal, G_stop_refusal, p_stop_refusal, ds_stop_refusal, v_stop_refusal, b_stop_refusal⟩ := ok_stop_refusal (P := P) (w := w) (base := base) T
  obtain ⟨fd_play_effect, G_play_effect, p_play_effect, ds_play_effect, v_play_effect, b_play_effect⟩ := ok_play_effect (P := P) (w := w) (base := base) T
  refine gd_mk T.d_play_step sc_play_step (fun F => bn (bi_play_step F)) (fun vs H Q E h => ?_) (fun cdv A outer s H vs Q E hr h => ?_)
  · obtain ⟨_, _, _, rfl, _⟩ := h
    rfl
  · obtain ⟨b, c, a, rfl, h⟩ := h
    refine ⟨_, (pss_cons (ps_set (i := 3) sc_play_step.nd rfl (Or.inl rfl) (pe_ix ix_tup (pv 2) pe_int (fun _ _ => rfl)))
  (pss_cons (ps_if (pt_cmpR op_eq (pv 3) pe_str (nomark _))
  (pss_one (ps_expr (pe_call G_begin_round (hr.mono (by decide)) rfl T.g_begin_round p_begin_round b_begin_round v_begin_round pass0 (pa_cons (pv 0) (pa_cons (pv 1) (pa_cons (pv 2) pa_nil))))))
  (pss_one (ps_if (pt_cmpR op_eq (pv 3) pe_str (nomark _))
  (pss_one (ps_expr (pe_call G_next_strip (hr.mono (by decide)) rfl T.g_next_strip p_next_strip b_next_strip v_next_strip pass0 (pa_cons (pv 0) (pa_cons (pv 1) pa_nil)))))
  (pss_one (ps_if (pt_cmpR op_eq (pv 3) pe_str (nomark _))
  (pss_one (ps_expr (pe_call G_trim_strip (hr.mono (by decide)) rfl T.g_trim_strip p_trim_strip b_trim_strip v_trim_strip pass0 (pa_cons (pv 0) pa_nil))))
  (pss_one (ps_if (pt_cmpR op_eq (pv 3) pe_str (nomark _))
  (pss_one (ps_ret (pe_call G_stop_refusal (hr.mono (by decide)) rfl T.g_stop_refusal p_stop_refusal b_stop_refusal v_stop_refusal pass0 (pa_cons (pv 0) (pa_cons (pv 2) pa_nil)))))
  (pss_one (ps_if (pt_cmpR op_eq (pv 3) pe_str (nomark _))
  (pss_one ps_never)
  (pss_one (ps_if (pt_cmpR op_eq (pv 3) pe_str (nomark _))
  (pss_one ps_never)
  (pss_one (ps_if (pt_cmpR op_eq (pv 3) pe_str (nomark _))
  (pss_one ps_never)
  (pss_one (ps_expr (pe_call G_play_effect (hr.mono (by decide)) rfl T.g_play_effect p_play_effect b_play_effect v_play_effect pass0 (pa_cons (pv 0) (pa_cons (pv 2) pa_nil))))))))))))))))))
  (pss_one (ps_ret pe_non)))), ?_⟩
    rcases h with ⟨st, ha, hl, k⟩ | ⟨r, ha, k⟩ | ⟨r, ha, k⟩ | ⟨r, ha, k⟩ | ⟨r, ha, k⟩ | ⟨r, ha, k⟩ | ⟨r, ha, k⟩
    · cases st with
      | save p => exact hl.elim
      | _ =>
        refine ⟨_, rfl, a, _, _, _, rfl, rfl, seqt ha, rfl, ?_⟩
        iterate 7 (refine ⟨_, rfl, rfl, _, rfl, iteF ?_⟩)
        exact ⟨_, rfl, _, rfl, b, a, rfl, .inl ⟨_, ha, trivial, k⟩⟩
    · refine ⟨_, rfl, a, _, _, .str "save", rfl, rfl, seqt ha, atI_nat (j := 0) rfl, ?_⟩
      iterate 7 (refine ⟨_, rfl, rfl, _, rfl, iteF ?_⟩)
      exact ⟨_, rfl, _, rfl, b, a, rfl, .inr (.inl ⟨r, ha, k⟩)⟩
    · refine ⟨_, rfl, a, _, _, .str "store", rfl, rfl, seqt ha, atI_nat (j := 0) rfl, ?_⟩
      iterate 7 (refine ⟨_, rfl, rfl, _, rfl, iteF ?_⟩)
      exact ⟨_, rfl, _, rfl, b, a, rfl, .inr (.inr ⟨r, ha, k⟩)⟩
    · refine ⟨_, rfl, a, _, _, .str "begin", rfl, rfl, seqt ha, atI_nat (j := 0) rfl, ?_⟩
      exact ⟨_, rfl, rfl, _, rfl, iteT ⟨_, rfl, _, rfl, _, rfl, k⟩⟩
    · refine ⟨_, rfl, a, _, _, .str "next", rfl, rfl, seqt ha, atI_nat (j := 0) rfl, ?_⟩
      iterate 1 (refine ⟨_, rfl, rfl, _, rfl, iteF ?_⟩)
      exact ⟨_, rfl, rfl, _, rfl, iteT ⟨_, rfl, _, rfl, k⟩⟩
    · refine ⟨_, rfl, a, _, _, .str "trim", rfl, rfl, seqt ha, atI_nat (j := 0) rfl, ?_⟩
      iterate 2 (refine ⟨_, rfl, rfl, _, rfl, iteF ?_⟩)
      exact ⟨_, rfl, rfl, _, rfl, iteT ⟨_, rfl, k⟩⟩
    · refine ⟨_, rfl, a, _, _, .str "stop", rfl, rfl, seqt ha, atI_nat (j := 0) rfl, ?_⟩
      iterate 3 (refine ⟨_, rfl, rfl, _, rfl, iteF ?_⟩)
      exact ⟨_, rfl, rfl, _, rfl, iteT ⟨_, rfl, _, rfl, k⟩⟩
end
end Rb
set_option Elab.async false
set_option linter.all false
set_option maxRecDepth 100000
set_option maxHeartbeats 4000000
/-! the machine is made -/
namespace Rb
open PySem PySem.Spec PyProof.Rows L2
def spCourseInit (K : PySem.W.Frag) : Sp := fun vs H Q _ => ∃ (p dx : Addr), vs = [.ref p] ∧ H p = some (.ins (C_Course K) dx []) ∧
  ∀ tr H', H' p = some (courseO K dx 0 0 tr) → (∀ a o, H a = some o → a ≠ p → H' a = some o) → Q .non H'
def spFeedInit (K : PySem.W.Frag) : Sp := fun vs H Q _ => ∃ (p dx a : Addr) (xs : List V), vs = [.ref p, .ref a] ∧ H p = some (.ins (C_Feed K) dx []) ∧ SqL K H a xs ∧
  ∀ q H', H q = none → H' p = some (.ins (C_Feed K) dx (F_Feed (.ref q) (.int 0))) → H' q = some (.lst xs) → (∀ a o, H a = some o → a ≠ p → H' a = some o) → Q .non H'
def spBoxesInit (K : PySem.W.Frag) : Sp := fun vs H Q _ => ∃ (p dx : Addr) (lanes : Nat), vs = [.ref p, .int lanes] ∧ H p = some (.ins (C_Boxes K) dx []) ∧ lanes ≤ 16 ∧
  ∀ q (rows : List Addr) H', H q = none → rows.length = 8 → (q :: rows).Nodup → (∀ r ∈ rows, H r = none ∧ H' r = some (.lst (List.replicate lanes (.int 0)))) → H' p = some (.ins (C_Boxes K) dx (F_Boxes (.int lanes) (.ref q))) → H' q = some (.lst (rows.map V.ref)) →
    (∀ a o, H a = some o → a ≠ p → H' a = some o) → Q .non H'
/-- a list of n new lists, all of the same items -/
structure RowsAt (H0 : Hp) (D : Addr) (c : List V) (i : Nat) (H : Hp) : Prop where
  ex : ∃ rows : List Addr, rows.length = i ∧ H D = some (.lst (rows.map V.ref)) ∧ (D :: rows).Nodup ∧ ∀ r ∈ rows, H0 r = none ∧ H r = some (.lst c)
  same : Same H0 H
  d : H0 D = none
theorem RowsAt.zero {H0 : Hp} {D : Addr} {c : List V} (h : H0 D = none) : RowsAt H0 D c 0 (upd H0 D (.lst [])) := ⟨⟨[], rfl, upd_same, by simp, fun r h => by cases h⟩, same_new h, h⟩
/-- one more: [v] at u, then [v] * k at p -/
theorem RowsAt.step {H0 H : Hp} {D u p : Addr} {c : List V} {o : HO} {i : Nat} (R : RowsAt H0 D c i H) (hi : i < 1000) (hu : H u = none) (hp : (upd H u o) p = none) :
    ∃ acc, (upd (upd H u o) p (.lst c)) D = some (.lst acc) ∧ acc.length < sizeLine ∧ RowsAt H0 D c (i + 1) (upd (upd (upd H u o) p (.lst c)) D (.lst (acc ++ [.ref p]))) := by
  obtain ⟨⟨rows, hl, hD, hn, hr⟩, e, hd⟩ := R
  have nu : D ≠ u := ne_of_none hD hu
  have hD1 : (upd H u o) D = _ := (upd_ne nu).trans hD
  have np : D ≠ p := ne_of_none hD1 hp
  have pu : p ≠ u := fun z => by
    rw [z, upd_same] at hp
    cases hp
  have hp0 : H p = none := by rw [upd_ne pu] at hp; exact hp
  have hrp : ∀ r ∈ rows, r ≠ p ∧ r ≠ u ∧ r ≠ D := fun r hm => ⟨ne_of_none (hr r hm).2 hp0, ne_of_none (hr r hm).2 hu, fun z => (List.nodup_cons.mp hn).1 (z ▸ hm)⟩
  have s3 : Same H0 (upd (upd (upd H u o) p (.lst c)) D (.lst (rows.map V.ref ++ [.ref p]))) := fun a x hx => by
    have h1 := e a x hx
    rw [upd_ne (ne_of_none hx hd), upd_ne (ne_of_none h1 hp0), upd_ne (ne_of_none h1 hu)]
    exact h1
  refine ⟨rows.map V.ref, (upd_ne np).trans hD1, ?_, ⟨rows ++ [p], ?_, ?_, ?_, fun r hm => ?_⟩, s3, hd⟩
  · rw [List.length_map, hl]
    exact small1000 (Nat.le_of_lt hi)
  · rw [List.length_append, hl]
    rfl
  · rw [upd_same, List.map_append]
    rfl
  · show (D :: (rows ++ [p])).Nodup
    refine List.nodup_cons.mpr ⟨fun m => ?_, nd_snoc (List.nodup_cons.mp hn).2 fun m => (hrp p m).1 rfl⟩
    rcases List.mem_append.mp m with m | m
    · exact (List.nodup_cons.mp hn).1 m
    · exact np (List.mem_singleton.mp m)
  · rcases List.mem_append.mp hm with m | m
    · refine ⟨(hr r m).1, ?_⟩
      rw [upd_ne (hrp r m).2.2, upd_ne (hrp r m).1, upd_ne (hrp r m).2.1]
      exact (hr r m).2
    · rw [List.mem_singleton.mp m]
      refine ⟨e.free hp0, ?_⟩
      rw [upd_ne np.symm, upd_same]
theorem rep_one (v : V) (n : Nat) : (List.replicate n [v]).flatten = List.replicate n v := by
  induction n with
  | zero => rfl
  | succ n ih =>
    rw [List.replicate_succ, List.replicate_succ, List.flatten_cons, ih]
    rfl
section
variable {P : Program} {w : World} {K : PySem.W.Frag} {mg : Str → Option Value} {base : Heap}
theorem sc_Course_init : FnScope ["self"] ["self"] (defScope s_Course_init) := ⟨rfl, rfl, rfl, by decide +kernel, rfl, by decide +kernel, by decide +kernel⟩
theorem bi_Course_init {K : PySem.W.Frag} {f : Addr} {fd : FuncData} (F : FunD K "__init__" "Course.__init__" (defArgs s_Course_init) (defBody s_Course_init) (defScope s_Course_init) [] [] f fd) : Binds K fd ["self"] [] := F.bindsN fun _ _ _ _ _ _ us hl => match us, hl with | [_], _ => rfl
theorem ok_Course_init (T : Tx K mg) : Gd P w K mg base CX0 1 (He.fAd K ("Course", some "__init__")) ["self"] [] (spCourseInit K) := by
  refine gd_mk T.d_Course_init sc_Course_init (fun F => bn (bi_Course_init F)) (fun vs H Q E h => ?_) (fun cdv A outer s H vs Q E hr h => ?_)
  · obtain ⟨_, _, rfl, _⟩ := h
    rfl
  · obtain ⟨p, dx, rfl, hp, k⟩ := h
    refine ⟨_, (pss_cons (ps_fld (pv 0) pe_int rfl)
  (pss_cons (ps_fld (pv 0) pe_int rfl)
  (pss_one (ps_fld (pv 0) (pe_lst pa_nil) rfl)))), ?_⟩
    refine ⟨_, rfl, _, _, _, _, rfl, hp, T.c_Course, T.n_Course_ahead, J_Course_0, ?_⟩
    rw [I_Course_0]
    refine ⟨_, rfl, _, _, _, _, rfl, upd_same, T.c_Course, T.n_Course_opened, J_Course_1, ?_⟩
    rw [I_Course_1, upd_upd]
    refine ⟨(by show 0 ≤ sizeLine; decide), fun q hq => ?_⟩
    have npq : p ≠ q := fun e => by
      rw [← e, upd_same] at hq
      cases hq
    have hq0 : H q = none := by rw [upd_ne npq.symm] at hq; exact hq
    refine ⟨_, rfl, _, _, _, _, rfl, (upd_ne npq).trans upd_same, T.c_Course, T.n_Course_turns, J_Course_2, ?_⟩
    rw [I_Course_2]
    refine k (.ref q) _ upd_same fun a o ha hne => ?_
    rw [upd_ne hne, upd_ne (ne_of_none ha hq0), upd_ne hne]
    exact ha
theorem sc_Feed_init : FnScope ["self", "numbers"] ["self", "numbers"] (defScope s_Feed_init) := ⟨rfl, rfl, rfl, by decide +kernel, rfl, by decide +kernel, by decide +kernel⟩
theorem bi_Feed_init {K : PySem.W.Frag} {f : Addr} {fd : FuncData} (F : FunD K "__init__" "Feed.__init__" (defArgs s_Feed_init) (defBody s_Feed_init) (defScope s_Feed_init) [] [] f fd) : Binds K fd ["self", "numbers"] [] := F.bindsN fun _ _ _ _ _ _ us hl => match us, hl with | [_, _], _ => rfl
theorem ok_Feed_init (T : Tx K mg) : Gd P w K mg base CX0 1 (He.fAd K ("Feed", some "__init__")) ["self", "numbers"] [] (spFeedInit K) := by
  refine gd_mk T.d_Feed_init sc_Feed_init (fun F => bn (bi_Feed_init F)) (fun vs H Q E h => ?_) (fun cdv A outer s H vs Q E hr h => ?_)
  · obtain ⟨_, _, _, _, rfl, _⟩ := h
    rfl
  · obtain ⟨p, dx, a, xs, rfl, hp, ha, k⟩ := h
    refine ⟨_, (pss_cons (ps_fld (pv 0) (pe_callTy call_list_of (by rfl) T.b_list (by decide +kernel) (pa_cons (pv 1) pa_nil)) rfl)
  (pss_one (ps_fld (pv 0) pe_int rfl))), ?_⟩
    refine ⟨_, rfl, a, xs, rfl, .inl ha, fun q hq => ?_⟩
    have npq : p ≠ q := ne_of_none hp hq
    refine ⟨_, rfl, _, _, _, _, rfl, (upd_ne npq).trans hp, T.c_Feed, T.n_Feed_stock, J_Feed_0, ?_⟩
    rw [I_Feed_0]
    refine ⟨_, rfl, _, _, _, _, rfl, upd_same, T.c_Feed, T.n_Feed_spent, J_Feed_1, ?_⟩
    rw [I_Feed_1, upd_upd]
    refine k q _ hq upd_same ((upd_ne npq.symm).trans upd_same) fun a o ha hne => ?_
    rw [upd_ne hne, upd_ne (ne_of_none ha hq)]
    exact ha
theorem sc_Boxes_init : FnScope ["self", "lanes", "box"] ["self", "lanes"] (defScope s_Boxes_init) := ⟨rfl, rfl, rfl, by decide +kernel, rfl, by decide +kernel, by decide +kernel⟩
theorem bi_Boxes_init {K : PySem.W.Frag} {f : Addr} {fd : FuncData} (F : FunD K "__init__" "Boxes.__init__" (defArgs s_Boxes_init) (defBody s_Boxes_init) (defScope s_Boxes_init) [] [] f fd) : Binds K fd ["self", "lanes"] [] := F.bindsN fun _ _ _ _ _ _ us hl => match us, hl with | [_, _], _ => rfl
theorem ok_Boxes_init (T : Tx K mg) : Gd P w K mg base CX0 1 (He.fAd K ("Boxes", some "__init__")) ["self", "lanes"] [] (spBoxesInit K) := by
  refine gd_mk T.d_Boxes_init sc_Boxes_init (fun F => bn (bi_Boxes_init F)) (fun vs H Q E h => ?_) (fun cdv A outer s H vs Q E hr h => ?_)
  · obtain ⟨_, _, _, rfl, _⟩ := h
    rfl
  · obtain ⟨p, dx, lanes, rfl, hp, hl, k⟩ := h
    refine ⟨_, (pss_cons (ps_fld (pv 0) (pv 1) rfl)
  (pss_one (ps_fld (pv 0) (pe_lc (own := [("box", 2)]) (g := gName 2) (by rfl) sc_Boxes_init.nd (pi_range1 rfl T.b_range (pa_cons pe_int pa_nil)) (blkOk_by (own := [("box", 2)]) (N := ["self", "lanes", "box"]) (sc := defScope s_Boxes_init) (by decide +kernel)) (fun _ _ _ _ _ => pg_name (i := 2) sc_Boxes_init.nd rfl (Or.inl rfl)) (fun _ _ _ _ _ => pts_nil) (fun _ _ _ _ _ => (pe_op op_rep (pe_lst (pa_cons pe_int pa_nil)) (pv 1)))) rfl))), ?_⟩
    refine ⟨_, rfl, _, rfl, _, _, _, _, rfl, hp, T.c_Boxes, T.n_Boxes_lanes, J_Boxes_0, ?_⟩
    rw [I_Boxes_0]
    refine ⟨8, rfl, by decide, by decide, fun D hD => lc_range (lo := 0) (n := 8) (RowsAt _ D (List.replicate lanes (.int 0))) (RowsAt.zero hD) ?_ ?_⟩
    · rintro i H2 hi R
      refine ⟨rfl, ?_⟩
      dsimp only [tYes]
      refine iteT ?_
      refine ⟨(by show 1 ≤ sizeLine; decide), fun u hu => ?_⟩
      refine ⟨_, rfl, u, _, _, rfl, rfl, upd_same, by omega, by omega, ?_, fun p1 hp1 => ?_⟩
      · show 1 * (lanes : Int).toNat ≤ sizeLine
        rw [Int.toNat_natCast, Nat.one_mul]
        exact Nat.le_of_lt (small1000 (by omega))
      · rw [Int.toNat_natCast, rep_one]
        exact R.step (by omega) hu hp1
    · rintro H2 ⟨⟨rows, hrl, hD2, hnd, hrs⟩, e2, _⟩
      have npD : p ≠ D := fun e => by
        rw [← e, upd_same] at hD
        cases hD
      have hD0 : H D = none := by rw [upd_ne npD.symm] at hD; exact hD
      have hp2 := e2 _ _ (upd_same (H := H) (a := p) (o := .ins (C_Boxes K) dx [("lanes", .int lanes)]))
      refine ⟨_, rfl, _, _, _, _, rfl, hp2, T.c_Boxes, T.n_Boxes_boxes, J_Boxes_1, ?_⟩
      rw [I_Boxes_1]
      refine k D rows _ hD0 hrl hnd (fun r hm => ?_) upd_same ((upd_ne npD.symm).trans hD2) fun a o ha hne => ?_
      · obtain ⟨h1, h2⟩ := hrs r hm
        have nrp : r ≠ p := fun e => by
          rw [e, upd_same] at h1
          cases h1
        rw [upd_ne nrp] at h1
        exact ⟨h1, (upd_ne nrp).trans h2⟩
      · rw [upd_ne hne]
        exact e2 _ _ ((upd_ne hne).trans ha)
end
end Rb
set_option Elab.async false
set_option linter.all false
set_option maxRecDepth 100000
set_option maxHeartbeats 4000000
/-! the bench is made -/
namespace Rb
open PySem PySem.Spec PyProof.Rows L2
theorem tag_of {l : List Addr} {ns : List Nat} {i : Nat} {a : Addr} {n : Nat} (hn : l.Nodup) (hi : l[i]? = some a) (hj : ns[i]? = some n) : ((l.zip ns).lookup a).getD 1000 = n := by
  induction l generalizing ns i with
  | nil => simp at hi
  | cons x r ih =>
    cases ns with
    | nil => simp at hj
    | cons m ns =>
      obtain ⟨h1, h2⟩ := List.nodup_cons.mp hn
      cases i with
      | zero =>
        simp at hi hj
        subst hi hj
        simp [List.lookup_cons]
      | succ i =>
        simp at hi hj
        have hne : (a == x) = false := by
          refine beq_eq_false_iff_ne.mpr fun e => h1 ?_
          rw [← e]
          exact List.mem_of_getElem? hi
        rw [List.zip_cons_cons, List.lookup_cons, hne]
        exact ih h2 hi hj
theorem nw_at {l : List (Addr × HO)} {H0 : Hp} (h : ∀ q ∈ l, H0 q.1 = none) {i : Nat} {q : Addr} (e : (l.map (·.1))[i]? = some q) : H0 q = none := by
  obtain ⟨z, hz, e⟩ := List.mem_map.mp (List.mem_of_getElem? e)
  rw [← e]
  exact h z hz
/-- a bench half made: its fields fs, what was made beside it -/
structure BI (K : PySem.W.Frag) (H0 : Hp) (p dx : Addr) (fs : List (Str × V)) (l : List (Addr × HO)) (H : Hp) : Prop where
  hp : H p = some (.ins (C_Bench K) dx fs)
  o : ∀ q ∈ l, H q.1 = some q.2
  nd : (p :: l.map (·.1)).Nodup
  nw : ∀ q ∈ l, H0 q.1 = none
  fr : ∀ a o, H0 a = some o → a ≠ p → H a = some o
section
variable {K : PySem.W.Frag} {H0 H H' : Hp} {p dx : Addr} {fs fs' : List (Str × V)} {l l' : List (Addr × HO)}
theorem BI.store (B : BI K H0 p dx fs l H) (fs' : List (Str × V)) : BI K H0 p dx fs' l (upd H p (.ins (C_Bench K) dx fs')) :=
  ⟨upd_same, fun q hq => (upd_ne fun e => (List.nodup_cons.mp B.nd).1 (by rw [← e]; exact List.mem_map_of_mem (f := (·.1)) hq)).trans (B.o q hq), B.nd, B.nw, fun a o h n => (upd_ne n).trans (B.fr a o h n)⟩
theorem BI.back (B : BI K H0 p dx fs l H) (hp0 : H0 p ≠ none) {a : Addr} (h : H a = none) : H0 a = none := by
  cases q : H0 a with
  | none => rfl
  | some o =>
    have ne : a ≠ p := fun e => by
      rw [e, B.hp] at h
      cases h
    rw [B.fr a o q ne] at h
    cases h
theorem BI.more (B : BI K H0 p dx fs l H) (hp0 : H0 p ≠ none) (e : Same H H') (hl : ∀ q ∈ l', H q.1 = none ∧ H' q.1 = some q.2) (hn : (l'.map (·.1)).Nodup) : BI K H0 p dx fs (l' ++ l) H' := by
  refine ⟨e _ _ B.hp, fun q hq => ?_, ?_, fun q hq => ?_, fun a o h n => e _ _ (B.fr a o h n)⟩
  · rcases List.mem_append.mp hq with h | h
    · exact (hl q h).2
    · exact e _ _ (B.o q h)
  · obtain ⟨n1, n2⟩ := List.nodup_cons.mp B.nd
    rw [List.map_append]
    refine List.nodup_cons.mpr ⟨fun m => ?_, List.nodup_append.mpr ⟨hn, n2, fun a ha b hb e => ?_⟩⟩
    · rcases List.mem_append.mp m with m | m
      · obtain ⟨q, hq, e⟩ := List.mem_map.mp m
        have := (hl q hq).1
        rw [e, B.hp] at this
        cases this
      · exact n1 m
    · obtain ⟨q, hq, e1⟩ := List.mem_map.mp ha
      obtain ⟨r, hr, e2⟩ := List.mem_map.mp hb
      have h1 := (hl q hq).1
      have h2 := B.o r hr
      rw [e1, e, ← e2, h2] at h1
      cases h1
  · rcases List.mem_append.mp hq with h | h
    · exact B.back hp0 (hl q h).1
    · exact B.nw q h
end
theorem made_none {H : Hp} {x y z : Addr} {o u : HO} (h : (upd (upd H y o) x u) z = none) : H z = none := by
  have n1 : z ≠ x := fun e => by
    rw [e, upd_same] at h
    cases h
  rw [upd_ne n1] at h
  have n2 : z ≠ y := fun e => by
    rw [e, upd_same] at h
    cases h
  rw [upd_ne n2] at h
  exact h
def initS (lengths cells : List Int) (lanes : Nat) (dust : List Int) : MS := ⟨lengths, cells, lanes, fun _ => List.replicate lanes 0, List.replicate (4 * lanes) false, List.replicate (4 * lanes) 0, dust, 0, [], 0, .non⟩
def spBenchInit (K : PySem.W.Frag) : Sp := fun vs H Q _ => ∃ (p dx a b c d : Addr) (lengths cells : List Int) (lanes : Nat) (dust picks : List Int), vs = [.ref p, .ref a, .ref b, .int lanes, .ref c, .ref d] ∧ H p = some (.ins (C_Bench K) dx []) ∧ SqL K H a (lengths.map V.int) ∧ SqL K H b (cells.map V.int) ∧ SqL K H c (dust.map V.int) ∧ SqL K H d (picks.map V.int) ∧ a ≠ p ∧ b ≠ p ∧ c ≠ p ∧ d ≠ p ∧
  1 ≤ lanes ∧ lanes ≤ 16 ∧ ∀ L H', L.b = p → BenchAt K L (initS lengths cells lanes dust) H' → (∀ x o, H x = some o → x ≠ p → H' x = some o) → (∀ x, Own L x → x = p ∨ H x = none) → Q .non H'
theorem seq_fr {K : PySem.W.Frag} {H H' : Hp} {a p : Addr} {xs : List V} (f : ∀ x o, H x = some o → x ≠ p → H' x = some o) (n : a ≠ p) (h : SqL K H a xs) : SqL K H' a xs := by
  rcases h with (h | ⟨o, h⟩) | h
  · exact .inl (.inl (f _ _ h n))
  · exact .inl (.inr ⟨o, f _ _ h n⟩)
  · exact .inr h
section
variable {P : Program} {w : World} {K : PySem.W.Frag} {mg : Str → Option Value} {base : Heap}
theorem sc_Bench_init : FnScope ["self", "lengths", "cells", "lanes", "dust", "picks", "mask", "slot"] ["self", "lengths", "cells", "lanes", "dust", "picks"] (defScope s_Bench_init) := ⟨rfl, rfl, rfl, by decide +kernel, rfl, by decide +kernel, by decide +kernel⟩
theorem bi_Bench_init {K : PySem.W.Frag} {f : Addr} {fd : FuncData} (F : FunD K "__init__" "Bench.__init__" (defArgs s_Bench_init) (defBody s_Bench_init) (defScope s_Bench_init) [] [] f fd) : Binds K fd ["self", "lengths", "cells", "lanes", "dust", "picks"] [] := F.bindsN fun _ _ _ _ _ _ us hl => match us, hl with | [_, _, _, _, _, _], _ => rfl
theorem ok_Bench_init (T : Tx K mg) : Gd P w K mg base CX0 3 (He.fAd K ("Bench", some "__init__")) ["self", "lengths", "cells", "lanes", "dust", "picks"] [] (spBenchInit K) := by
  obtain ⟨fd_Boxes_init, G_Boxes_init, p_Boxes_init, ds_Boxes_init, v_Boxes_init, b_Boxes_init⟩ := ok_Boxes_init (P := P) (w := w) (base := base) T
  obtain ⟨fd_Feed_init, G_Feed_init, p_Feed_init, ds_Feed_init, v_Feed_init, b_Feed_init⟩ := ok_Feed_init (P := P) (w := w) (base := base) T
  refine gd_mk T.d_Bench_init sc_Bench_init (fun F => bn (bi_Bench_init F)) (fun vs H Q E h => ?_) (fun cdv A outer s H vs Q E hr h => ?_)
  · obtain ⟨_, _, _, _, _, _, _, _, _, _, _, rfl, _⟩ := h
    rfl
  · obtain ⟨p, dx, a, b, c, d, lengths, cells, lanes, dust, picks, rfl, hp, ha, hb, hc, hd, na, nb, nc, nd, hl1, hl16, k⟩ := h
    have hp0 : H p ≠ none := by rw [hp]; exact fun z => nomatch z
    have B0 : BI K H p dx [] [] H := ⟨hp, fun q h => (List.not_mem_nil h).elim, by simp, fun q h => (List.not_mem_nil h).elim, fun a o h _ => h⟩
    refine ⟨_, (pss_cons (ps_fld (pv 0) (pe_callTy call_list_of (by rfl) T.b_list (by decide +kernel) (pa_cons (pv 1) pa_nil)) rfl)
  (pss_cons (ps_fld (pv 0) (pe_callTy call_list_of (by rfl) T.b_list (by decide +kernel) (pa_cons (pv 2) pa_nil)) rfl)
  (pss_cons (ps_fld (pv 0) (pv 3) rfl)
  (pss_cons (ps_fld (pv 0) (pe_make T.k_Boxes G_Boxes_init (hr.mono (by decide)) rfl T.g_Boxes b_Boxes_init v_Boxes_init pass0 (pa_cons (pv 3) pa_nil)) rfl)
  (pss_cons (ps_fld (pv 0) (pe_lc (own := [("mask", 6)]) (g := gName 6) (by rfl) sc_Bench_init.nd (pi_range1 rfl T.b_range (pa_cons pe_int pa_nil)) (blkOk_by (own := [("mask", 6)]) (N := ["self", "lengths", "cells", "lanes", "dust", "picks", "mask", "slot"]) (sc := defScope s_Bench_init) (by decide +kernel)) (fun _ _ _ _ _ => pg_name (i := 6) sc_Bench_init.nd rfl (Or.inl rfl)) (fun _ _ _ _ _ => pts_nil) (fun _ _ _ _ _ => (pe_op op_rep (pe_lst (pa_cons pe_bl pa_nil)) (pe_op op_mul pe_int (pv 3))))) rfl)
  (pss_cons (ps_fld (pv 0) (pe_lc (own := [("slot", 7)]) (g := gName 7) (by rfl) sc_Bench_init.nd (pi_range1 rfl T.b_range (pa_cons pe_int pa_nil)) (blkOk_by (own := [("slot", 7)]) (N := ["self", "lengths", "cells", "lanes", "dust", "picks", "mask", "slot"]) (sc := defScope s_Bench_init) (by decide +kernel)) (fun _ _ _ _ _ => pg_name (i := 7) sc_Bench_init.nd rfl (Or.inl rfl)) (fun _ _ _ _ _ => pts_nil) (fun _ _ _ _ _ => (pe_op op_rep (pe_lst (pa_cons pe_int pa_nil)) (pe_op op_mul pe_int (pv 3))))) rfl)
  (pss_cons (ps_fld (pv 0) (pe_make T.k_Feed G_Feed_init (hr.mono (by decide)) rfl T.g_Feed b_Feed_init v_Feed_init pass0 (pa_cons (pv 4) pa_nil)) rfl)
  (pss_cons (ps_fld (pv 0) (pe_make T.k_Feed G_Feed_init (hr.mono (by decide)) rfl T.g_Feed b_Feed_init v_Feed_init pass0 (pa_cons (pv 5) pa_nil)) rfl)
  (pss_cons (ps_fld (pv 0) pe_int rfl)
  (pss_cons (ps_fld (pv 0) (pe_lst pa_nil) rfl)
  (pss_cons (ps_fld (pv 0) pe_non rfl)
  (pss_cons (ps_fld (pv 0) pe_non rfl)
  (pss_one (ps_fld (pv 0) pe_bl rfl)))))))))))))), ?_⟩
    -- lengths, cells, lanes
    refine ⟨_, rfl, a, _, rfl, .inl ha, fun q1 hq1 => ?_⟩
    have B1 := B0.more (l' := [(q1, .lst (lengths.map V.int))]) hp0 (same_new hq1) (fun q h => by rw [List.mem_singleton.mp h]; exact ⟨hq1, upd_same⟩) (by simp)
    refine ⟨_, rfl, _, _, _, _, rfl, B1.hp, T.c_Bench, T.n_Bench_lengths, J_Bench_0, ?_⟩
    rw [I_Bench_0]
    have B2 := B1.store [("lengths", .ref q1)]
    refine ⟨_, rfl, b, _, rfl, .inl (seq_fr B2.fr nb hb), fun q2 hq2 => ?_⟩
    have B3 := B2.more (l' := [(q2, .lst (cells.map V.int))]) hp0 (same_new hq2) (fun q h => by rw [List.mem_singleton.mp h]; exact ⟨hq2, upd_same⟩) (by simp)
    refine ⟨_, rfl, _, _, _, _, rfl, B3.hp, T.c_Bench, T.n_Bench_cells, J_Bench_1, ?_⟩
    rw [I_Bench_1]
    have B4 := B3.store [("lengths", .ref q1), ("cells", .ref q2)]
    refine ⟨_, rfl, _, rfl, _, _, _, _, rfl, B4.hp, T.c_Bench, T.n_Bench_lanes, J_Bench_2, ?_⟩
    rw [I_Bench_2]
    have B5 := B4.store [("lengths", .ref q1), ("cells", .ref q2), ("lanes", .int lanes)]
    -- boxes
    refine ⟨_, rfl, fun x1 y1 hx1 hy1 hne1 => ⟨x1, y1, lanes, rfl, upd_same, hl16, fun q3 rows H6 hq3 hrl hnd3 hrow hx6 hq6 hk6 => ⟨rfl, ?_⟩⟩⟩
    have s6 := Same.made hx1 hy1 hk6
    obtain ⟨r0, r1, r2, r3, r4, r5, r6, r7, rfl⟩ : ∃ r0 r1 r2 r3 r4 r5 r6 r7, rows = [r0, r1, r2, r3, r4, r5, r6, r7] := match rows, hrl with
      | [_, _, _, _, _, _, _, _], _ => ⟨_, _, _, _, _, _, _, _, rfl⟩
    have B6 := B5.more (l' := (x1, .ins (C_Boxes K) y1 (F_Boxes (.int lanes) (.ref q3))) :: (q3, .lst ([r0, r1, r2, r3, r4, r5, r6, r7].map V.ref)) :: [r0, r1, r2, r3, r4, r5, r6, r7].map fun r => (r, .lst (List.replicate lanes (.int 0)))) hp0 s6 (fun q h => by
      rcases List.mem_cons.mp h with h | h
      · rw [h]; exact ⟨hx1, hx6⟩
      · rcases List.mem_cons.mp h with h | h
        · rw [h]; exact ⟨made_none hq3, hq6⟩
        · obtain ⟨r, hr, e⟩ := List.mem_map.mp h
          rw [← e]
          exact ⟨made_none (hrow r hr).1, (hrow r hr).2⟩) (by
      rw [List.map_cons, List.map_cons, List.map_map]
      have e : ([r0, r1, r2, r3, r4, r5, r6, r7].map ((fun z => z.1) ∘ fun r => (r, HO.lst (List.replicate lanes (V.int 0))))) = [r0, r1, r2, r3, r4, r5, r6, r7] := rfl
      rw [e]
      refine List.nodup_cons.mpr ⟨fun m => ?_, hnd3⟩
      rcases List.mem_cons.mp m with e | m
      · have e' : x1 = q3 := e
        rw [← e', upd_same] at hq3
        cases hq3
      · have h1 := (hrow x1 m).1
        rw [upd_same] at h1
        cases h1)
    refine ⟨_, rfl, _, _, _, _, rfl, B6.hp, T.c_Bench, T.n_Bench_boxes, J_Bench_3, ?_⟩
    rw [I_Bench_3]
    have B7 := B6.store [("lengths", .ref q1), ("cells", .ref q2), ("lanes", .int lanes), ("boxes", .ref x1)]
    -- masks
    refine ⟨16, rfl, by decide, by decide, fun Dm hDm => lc_range (lo := 0) (n := 16) (RowsAt _ Dm (List.replicate (4 * lanes) (.bl false))) (RowsAt.zero hDm) ?_ ?_⟩
    · rintro i H2 hi R
      refine ⟨rfl, ?_⟩
      dsimp only [tYes]
      refine iteT ?_
      refine ⟨(by show 1 ≤ sizeLine; decide), fun u hu => ?_⟩
      refine ⟨_, rfl, _, _, rfl, rfl, .inl ⟨by decide, by decide⟩, ?_⟩
      refine ⟨u, _, _, rfl, rfl, upd_same, by omega, by omega, ?_, fun p1 hp1 => ?_⟩
      · show 1 * ((4 : Int) * (lanes : Int)).toNat ≤ sizeLine
        rw [Nat.one_mul]
        exact Nat.le_of_lt (small1000 (by omega))
      · rw [show ((4 : Int) * (lanes : Int)).toNat = 4 * lanes by omega, rep_one]
        exact R.step (by omega) hu hp1
    rintro H8 ⟨⟨rowsm, hrlm, hDm', hndm, hrsm⟩, em, _⟩
    obtain ⟨mm, restm, rfl⟩ : ∃ m r, rowsm = m :: r := by
      cases rowsm with
      | nil => cases hrlm
      | cons m r => exact ⟨m, r, rfl⟩
    have B8 := B7.more (l' := [(Dm, .lst ((mm :: restm).map V.ref)), (mm, .lst (List.replicate (4 * lanes) (.bl false)))]) hp0 em (fun q h => by
      rcases List.mem_cons.mp h with h | h
      · rw [h]; exact ⟨hDm, hDm'⟩
      · rw [List.mem_singleton.mp h]; exact hrsm mm List.mem_cons_self) (by
      refine List.nodup_cons.mpr ⟨fun m => ?_, by simp⟩
      have e' : Dm = mm := List.mem_singleton.mp m
      exact (List.nodup_cons.mp hndm).1 (by rw [e']; exact List.mem_cons_self))
    refine ⟨_, rfl, _, _, _, _, rfl, B8.hp, T.c_Bench, T.n_Bench_masks, J_Bench_4, ?_⟩
    rw [I_Bench_4]
    have B9 := B8.store [("lengths", .ref q1), ("cells", .ref q2), ("lanes", .int lanes), ("boxes", .ref x1), ("masks", .ref Dm)]
    -- slots
    refine ⟨60, rfl, by decide, by decide, fun Ds hDs => lc_range (lo := 0) (n := 60) (RowsAt _ Ds (List.replicate (4 * lanes) (.int 0))) (RowsAt.zero hDs) ?_ ?_⟩
    · rintro i H2 hi R
      refine ⟨rfl, ?_⟩
      dsimp only [tYes]
      refine iteT ?_
      refine ⟨(by show 1 ≤ sizeLine; decide), fun u hu => ?_⟩
      refine ⟨_, rfl, _, _, rfl, rfl, .inl ⟨by decide, by decide⟩, ?_⟩
      refine ⟨u, _, _, rfl, rfl, upd_same, by omega, by omega, ?_, fun p1 hp1 => ?_⟩
      · show 1 * ((4 : Int) * (lanes : Int)).toNat ≤ sizeLine
        rw [Nat.one_mul]
        exact Nat.le_of_lt (small1000 (by omega))
      · rw [show ((4 : Int) * (lanes : Int)).toNat = 4 * lanes by omega, rep_one]
        exact R.step (by omega) hu hp1
    rintro H10 ⟨⟨rowss, hrls, hDs', hnds, hrss⟩, es, _⟩
    obtain ⟨ms, rests, rfl⟩ : ∃ m r, rowss = m :: r := by
      cases rowss with
      | nil => cases hrls
      | cons m r => exact ⟨m, r, rfl⟩
    have B10 := B9.more (l' := [(Ds, .lst ((ms :: rests).map V.ref)), (ms, .lst (List.replicate (4 * lanes) (.int 0)))]) hp0 es (fun q h => by
      rcases List.mem_cons.mp h with h | h
      · rw [h]; exact ⟨hDs, hDs'⟩
      · rw [List.mem_singleton.mp h]; exact hrss ms List.mem_cons_self) (by
      refine List.nodup_cons.mpr ⟨fun m => ?_, by simp⟩
      have e' : Ds = ms := List.mem_singleton.mp m
      exact (List.nodup_cons.mp hnds).1 (by rw [e']; exact List.mem_cons_self))
    refine ⟨_, rfl, _, _, _, _, rfl, B10.hp, T.c_Bench, T.n_Bench_slots, J_Bench_5, ?_⟩
    rw [I_Bench_5]
    have B11 := B10.store [("lengths", .ref q1), ("cells", .ref q2), ("lanes", .int lanes), ("boxes", .ref x1), ("masks", .ref Dm), ("slots", .ref Ds)]
    -- the feeds
    refine ⟨_, rfl, fun x2 y2 hx2 hy2 hne2 => ⟨x2, y2, c, dust.map V.int, rfl, upd_same, ?_, fun q4 H12 hq4 hx12 hq12 hk12 => ⟨rfl, ?_⟩⟩⟩
    · exact seq_fr (p := p) (fun z o h n => by
        have h1 := B11.fr z o h n
        rw [upd_ne (ne_of_none h1 hx2), upd_ne (ne_of_none h1 hy2)]
        exact h1) nc hc
    have s12 := Same.made hx2 hy2 hk12
    have B12 := B11.more (l' := [(x2, .ins (C_Feed K) y2 (F_Feed (.ref q4) (.int 0))), (q4, .lst (dust.map V.int))]) hp0 s12 (fun q h => by
      rcases List.mem_cons.mp h with h | h
      · rw [h]; exact ⟨hx2, hx12⟩
      · rw [List.mem_singleton.mp h]; exact ⟨made_none hq4, hq12⟩) (by
      refine List.nodup_cons.mpr ⟨fun m => ?_, by simp⟩
      have e : x2 = q4 := List.mem_singleton.mp m
      rw [← e, upd_same] at hq4
      cases hq4)
    refine ⟨_, rfl, _, _, _, _, rfl, B12.hp, T.c_Bench, T.n_Bench_dust, J_Bench_6, ?_⟩
    rw [I_Bench_6]
    have B13 := B12.store [("lengths", .ref q1), ("cells", .ref q2), ("lanes", .int lanes), ("boxes", .ref x1), ("masks", .ref Dm), ("slots", .ref Ds), ("dust", .ref x2)]
    refine ⟨_, rfl, fun x5 y5 hx5 hy5 hne5 => ⟨x5, y5, d, picks.map V.int, rfl, upd_same, ?_, fun q5 H14 hq5 hx14 hq14 hk14 => ⟨rfl, ?_⟩⟩⟩
    · exact seq_fr (p := p) (fun z o h n => by
        have h1 := B13.fr z o h n
        rw [upd_ne (ne_of_none h1 hx5), upd_ne (ne_of_none h1 hy5)]
        exact h1) nd hd
    have B14 := B13.more (l' := []) hp0 (Same.made hx5 hy5 hk14) (fun q h => (List.not_mem_nil h).elim) (by simp)
    refine ⟨_, rfl, _, _, _, _, rfl, B14.hp, T.c_Bench, T.n_Bench_picks, J_Bench_7, ?_⟩
    rw [I_Bench_7]
    have B15 := B14.store [("lengths", .ref q1), ("cells", .ref q2), ("lanes", .int lanes), ("boxes", .ref x1), ("masks", .ref Dm), ("slots", .ref Ds), ("dust", .ref x2), ("picks", .ref x5)]
    refine ⟨_, rfl, _, _, _, _, rfl, B15.hp, T.c_Bench, T.n_Bench_place, J_Bench_8, ?_⟩
    rw [I_Bench_8]
    have B16 := B15.store [("lengths", .ref q1), ("cells", .ref q2), ("lanes", .int lanes), ("boxes", .ref x1), ("masks", .ref Dm), ("slots", .ref Ds), ("dust", .ref x2), ("picks", .ref x5), ("place", .int 0)]
    refine ⟨(by show 0 ≤ sizeLine; decide), fun q6 hq6t => ?_⟩
    have B17 := B16.more (l' := [(q6, .lst [])]) hp0 (same_new hq6t) (fun q h => by rw [List.mem_singleton.mp h]; exact ⟨hq6t, upd_same⟩) (by simp)
    refine ⟨_, rfl, _, _, _, _, rfl, B17.hp, T.c_Bench, T.n_Bench_touches, J_Bench_9, ?_⟩
    rw [I_Bench_9]
    have B18 := B17.store [("lengths", .ref q1), ("cells", .ref q2), ("lanes", .int lanes), ("boxes", .ref x1), ("masks", .ref Dm), ("slots", .ref Ds), ("dust", .ref x2), ("picks", .ref x5), ("place", .int 0), ("touches", .ref q6)]
    refine ⟨_, rfl, _, _, _, _, rfl, B18.hp, T.c_Bench, T.n_Bench_now, J_Bench_10, ?_⟩
    rw [I_Bench_10]
    have B19 := B18.store [("lengths", .ref q1), ("cells", .ref q2), ("lanes", .int lanes), ("boxes", .ref x1), ("masks", .ref Dm), ("slots", .ref Ds), ("dust", .ref x2), ("picks", .ref x5), ("place", .int 0), ("touches", .ref q6), ("now", .non)]
    refine ⟨_, rfl, _, _, _, _, rfl, B19.hp, T.c_Bench, T.n_Bench_carried, J_Bench_11, ?_⟩
    rw [I_Bench_11]
    have B20 := B19.store [("lengths", .ref q1), ("cells", .ref q2), ("lanes", .int lanes), ("boxes", .ref x1), ("masks", .ref Dm), ("slots", .ref Ds), ("dust", .ref x2), ("picks", .ref x5), ("place", .int 0), ("touches", .ref q6), ("now", .non), ("carried", .non)]
    refine ⟨_, rfl, _, _, _, _, rfl, B20.hp, T.c_Bench, T.n_Bench_raised, J_Bench_12, ?_⟩
    rw [I_Bench_12]
    have B21 := B20.store (F_Bench (.ref q1) (.ref q2) (.int lanes) (.ref x1) (.ref Dm) (.ref Ds) (.ref x2) (.ref x5) (.int 0) (.ref q6) .non .non (.bl false))
    have nd21 := B21.nd
    have o21 := B21.o
    have nw21 := B21.nw
    have fr21 := B21.fr
    have hp21 := B21.hp
    have mb : ∀ {q : Addr} {o : HO}, (q, o) ∈ ([(q6, HO.lst []), (x2, .ins (C_Feed K) y2 (F_Feed (.ref q4) (.int 0))), (q4, .lst (dust.map V.int)), (Ds, .lst ((ms :: rests).map V.ref)), (ms, .lst (List.replicate (4 * lanes) (.int 0))), (Dm, .lst ((mm :: restm).map V.ref)), (mm, .lst (List.replicate (4 * lanes) (.bl false))),
        (x1, .ins (C_Boxes K) y1 (F_Boxes (.int lanes) (.ref q3))), (q3, .lst ([r0, r1, r2, r3, r4, r5, r6, r7].map V.ref)), (r0, .lst (List.replicate lanes (.int 0))), (r1, .lst (List.replicate lanes (.int 0))), (r2, .lst (List.replicate lanes (.int 0))), (r3, .lst (List.replicate lanes (.int 0))), (r4, .lst (List.replicate lanes (.int 0))),
        (r5, .lst (List.replicate lanes (.int 0))), (r6, .lst (List.replicate lanes (.int 0))), (r7, .lst (List.replicate lanes (.int 0))), (q2, .lst (cells.map V.int)), (q1, .lst (lengths.map V.int))] : List (Addr × HO)) → _ = some o := fun {q o} h => o21 (q, o) h
    have mn : ∀ {i : Nat} {q : Addr}, ([q6, x2, q4, Ds, ms, Dm, mm, x1, q3, r0, r1, r2, r3, r4, r5, r6, r7, q2, q1] : List Addr)[i]? = some q → H q = none := fun {i q} h => nw_at nw21 (i := i) h
    have nd22 : ([p, q6, x2, q4, Ds, ms, Dm, mm, x1, q3, r0, r1, r2, r3, r4, r5, r6, r7, q2, q1] : List Addr).Nodup := nd21
    have at_ : ∀ (i : Nat) {q : Addr} {o : HO}, ([(q6, HO.lst []), (x2, .ins (C_Feed K) y2 (F_Feed (.ref q4) (.int 0))), (q4, .lst (dust.map V.int)), (Ds, .lst ((ms :: rests).map V.ref)), (ms, .lst (List.replicate (4 * lanes) (.int 0))), (Dm, .lst ((mm :: restm).map V.ref)), (mm, .lst (List.replicate (4 * lanes) (.bl false))),
        (x1, .ins (C_Boxes K) y1 (F_Boxes (.int lanes) (.ref q3))), (q3, .lst ([r0, r1, r2, r3, r4, r5, r6, r7].map V.ref)), (r0, .lst (List.replicate lanes (.int 0))), (r1, .lst (List.replicate lanes (.int 0))), (r2, .lst (List.replicate lanes (.int 0))), (r3, .lst (List.replicate lanes (.int 0))), (r4, .lst (List.replicate lanes (.int 0))),
        (r5, .lst (List.replicate lanes (.int 0))), (r6, .lst (List.replicate lanes (.int 0))), (r7, .lst (List.replicate lanes (.int 0))), (q2, .lst (cells.map V.int)), (q1, .lst (lengths.map V.int))] : List (Addr × HO))[i]? = some (q, o) → _ := fun i {q o} h => mb (List.mem_of_getElem? h)
    clear B0 B1 B2 B3 B4 B5 B6 B7 B8 B9 B10 B11 B12 B13 B14 B15 B16 B17 B18 B19 B20 B21
    have rp : ∀ {n : Nat}, (List.replicate n (V.int 0)) = (List.replicate n (0 : Int)).map V.int := fun {n} => (List.map_replicate ..).symm
    have rb : ∀ {n : Nat}, (List.replicate n (V.bl false)) = (List.replicate n false).map V.bl := fun {n} => (List.map_replicate ..).symm
    refine k ⟨p, dx, q1, q2, x1, y1, q3, fun i => [r0, r1, r2, r3, r4, r5, r6, r7].getD i 0, Dm, (mm :: restm).map V.ref, mm, Ds, (ms :: rests).map V.ref, ms, x2, y2, q4, x5, q6⟩ _ rfl ?_ fr21 ?_
    · refine { b := hp21, lens := at_ 18 rfl, cells := at_ 17 rfl, bx := at_ 7 rfl, bl := at_ 8 rfl, row := fun i hi => ?_, ml := at_ 5 rfl, m0 := ?_, sl := at_ 3 rfl, s0 := ?_, du := at_ 1 rfl, dst := at_ 2 rfl, tch := at_ 0 rfl, apart := ?_, mlv := rfl, slv := rfl, nrow := fun i _ => List.length_replicate, nmask := List.length_replicate, nslot := List.length_replicate, nspent := ?_, nlanes := ⟨hl1, hl16⟩ }
      · show _ = some (HO.lst ((List.replicate lanes (0 : Int)).map V.int))
        rw [← rp]
        match i, hi with
        | 0, _ => exact at_ 9 rfl
        | 1, _ => exact at_ 10 rfl
        | 2, _ => exact at_ 11 rfl
        | 3, _ => exact at_ 12 rfl
        | 4, _ => exact at_ 13 rfl
        | 5, _ => exact at_ 14 rfl
        | 6, _ => exact at_ 15 rfl
        | 7, _ => exact at_ 16 rfl
      · show _ = some (HO.lst ((List.replicate (4 * lanes) false).map V.bl))
        rw [← rb]
        exact at_ 6 rfl
      · show _ = some (HO.lst ((List.replicate (4 * lanes) (0 : Int)).map V.int))
        rw [← rp]
        exact at_ 4 rfl
      · have tg : ∀ (i : Nat) {a : Addr} {n : Nat}, ([p, q6, x2, q4, Ds, ms, Dm, mm, x1, q3, r0, r1, r2, r3, r4, r5, r6, r7, q2, q1] : List Addr)[i]? = some a → ([0, 11, 9, 10, 7, 8, 5, 6, 3, 4, 20, 21, 22, 23, 24, 25, 26, 27, 2, 1] : List Nat)[i]? = some n → _ := fun i {a n} h1 h2 => tag_of nd22 h1 h2
        refine ⟨fun a => ((([p, q6, x2, q4, Ds, ms, Dm, mm, x1, q3, r0, r1, r2, r3, r4, r5, r6, r7, q2, q1] : List Addr).zip ([0, 11, 9, 10, 7, 8, 5, 6, 3, 4, 20, 21, 22, 23, 24, 25, 26, 27, 2, 1] : List Nat)).lookup a).getD 1000, tg 0 rfl rfl, tg 19 rfl rfl, tg 18 rfl rfl, tg 8 rfl rfl, tg 9 rfl rfl, tg 6 rfl rfl, tg 7 rfl rfl, tg 4 rfl rfl, tg 5 rfl rfl, tg 2 rfl rfl, tg 3 rfl rfl, tg 1 rfl rfl, fun i hi => ?_⟩
        match i, hi with
        | 0, _ => exact tg 10 rfl rfl
        | 1, _ => exact tg 11 rfl rfl
        | 2, _ => exact tg 12 rfl rfl
        | 3, _ => exact tg 13 rfl rfl
        | 4, _ => exact tg 14 rfl rfl
        | 5, _ => exact tg 15 rfl rfl
        | 6, _ => exact tg 16 rfl rfl
        | 7, _ => exact tg 17 rfl rfl
      · show dust = [] ∨ 0 < dust.length
        cases dust with
        | nil => exact .inl rfl
        | cons x r => exact .inr (Nat.succ_pos _)
    · rintro x (e | e | e | e | e | e | ⟨i, hi, e⟩)
      · exact .inl e
      · rw [e]; exact .inr (mn (i := 17) rfl)
      · rw [e]; exact .inr (mn (i := 6) rfl)
      · rw [e]; exact .inr (mn (i := 4) rfl)
      · rw [e]; exact .inr (mn (i := 1) rfl)
      · rw [e]; exact .inr (mn (i := 0) rfl)
      · rw [e]
        refine .inr ?_
        match i, hi with
        | 0, _ => exact mn (i := 9) rfl
        | 1, _ => exact mn (i := 10) rfl
        | 2, _ => exact mn (i := 11) rfl
        | 3, _ => exact mn (i := 12) rfl
        | 4, _ => exact mn (i := 13) rfl
        | 5, _ => exact mn (i := 14) rfl
        | 6, _ => exact mn (i := 15) rfl
        | 7, _ => exact mn (i := 16) rfl
end
end Rb
set_option Elab.async false
set_option linter.all false
set_option maxRecDepth 100000
set_option maxHeartbeats 4000000
/-! what a lane holds, step by step -/
namespace Rb
open PySem PySem.Spec PyProof.Rows L2
structure Data where
  lengths : List Int
  cells : List Int
  c : Nat
def Data.cell (D : Data) (z : Int) : Int := (D.cells[z.toNat]?).getD 0
def Data.start (D : Data) (r : Nat) : Int := (D.lengths.take r).sum
def Data.InR (D : Data) (z : Int) : Prop := ∃ j : Nat, z = j ∧ D.c ≤ j ∧ j < D.cells.length
structure Env where
  seat : Nat → Option Int
  slot : Option Int
def Env.get (v : Env) (q : Nat) : Int := (v.seat q).getD 0
def Env.put (v : Env) (p : Nat) (n : Int) : Env := { v with seat := fun q => if q = p then some n else v.seat q }
def env0 : Env := ⟨fun _ => none, none⟩
def laneGot (D : Data) (e : Nat) (v : Env) : Stp → Except Str Int
  | .number _ n => .ok n
  | .load _ r => .ok (D.cell (D.start r + (e : Int)))
  | .spread _ r => .ok (D.cell (D.start r + 0))
  | .gather _ q r => if 0 ≤ v.get q ∧ v.get q < (D.lengths[r]?).getD 0 then .ok (D.cell (D.start r + v.get q)) else .error "outside"
  | .op _ s q r => doneE s (v.get q) (v.get r)
  | .copy _ q => .ok (v.get q)
  | .bring _ => .ok (v.slot.getD 0)
  | .save _ => .ok 0
def laneStep (D : Data) (e : Nat) (st : Stp) (v : Env) : Except Str Env := match st with
  | .save p => .ok { v with slot := some (v.get p) }
  | st => match laneGot D e v st with
    | .ok n => .ok (v.put st.seat n)
    | .error f => .error f
def StepOk (D : Data) (e : Nat) (v : Env) : Stp → Prop
  | .number _ _ => True
  | .load _ r => r ≤ D.lengths.length ∧ D.InR (D.start r + (e : Int))
  | .spread _ r => r ≤ D.lengths.length ∧ D.InR (D.start r + 0)
  | .gather _ q r => r < D.lengths.length ∧ ∃ a, v.seat q = some a ∧ (0 ≤ a → a < (D.lengths[r]?).getD 0 → D.InR (D.start r + a))
  | .op _ s q r => (∃ a, v.seat q = some a) ∧ ∃ b, v.seat r = some b ∧ (s = "+" ∨ s = "/" ∧ -(2 ^ 63) ≤ b ∧ b < 2 ^ 63)
  | .copy _ q => ∃ a, v.seat q = some a
  | .bring _ => ∃ a, v.slot = some a
  | .save p => ∃ a, v.seat p = some a
structure DataOk (D : Data) (S : MS) : Prop where
  le : S.lengths = D.lengths
  ce : ∀ j, D.c ≤ j → S.cells[j]? = D.cells[j]?
  cl : S.cells.length = D.cells.length
def LaneAt (S : MS) (t : ST) (l : Nat) : Except Str Env → Prop
  | .error f => valV t.kvs (Sum.inl (l : Int) : Key) = some (.str f)
  | .ok v => Fine t.kvs l = true ∧ (∀ q a, v.seat q = some a → (q + 1) * t.g ≤ 8 ∧ sv S.lanes t.g S.rows q l = a) ∧ ∀ a, v.slot = some a → S.slot[l]? = some a
def LaneInv (S : MS) (t : ST) (E : Nat → Except Str Env) : Prop := ∀ l, l < t.width → LaneAt S t l (E (t.base + l))
theorem fine_no {kvs : List (Key × V)} {l : Nat} {v : V} (h : valV kvs (Sum.inl (l : Int) : Key) = some v) : Fine kvs l = false := by
  unfold Fine
  rw [h]
  rfl
section
variable {D : Data} {S : MS} {t : ST} {E : Nat → Except Str Env} {st : Stp}
theorem DataOk.start (d : DataOk D S) (r : Nat) : startOf S r = D.start r := by
  unfold startOf Data.start
  rw [d.le]
theorem DataOk.cell (d : DataOk D S) {z : Int} (h : D.InR z) : cellAt S z = D.cell z ∧ InCells S z := by
  obtain ⟨j, rfl, h1, h2⟩ := h
  refine ⟨?_, j, rfl, by rw [d.cl]; exact h2⟩
  unfold cellAt Data.cell
  rw [Int.toNat_natCast, d.ce j h1]
theorem get_of {v : Env} {q : Nat} {a : Int} (h : v.seat q = some a) : v.get q = a := by
  unfold Env.get
  rw [h]
  rfl
/-- a fine lane bears the step, and gets what it should -/
theorem lane_ok (d : DataOk D S) (hl : st.isLay) {l : Nat} {v : Env} {spr : Int} (h : LaneAt S t l (.ok v)) (ok : StepOk D (t.base + l) v st) (hs : ∀ p r, st = .spread p r → spr = cellAt S (startOf S r + 0)) :
    LaneOk S t st l ∧ got S t spr st l = laneGot D (t.base + l) v st := by
  obtain ⟨hf, hv, hsl⟩ := h
  cases st with
  | save p => exact hl.elim
  | number p n => exact ⟨trivial, rfl⟩
  | load p r =>
    obtain ⟨h1, h2⟩ := ok
    have e : startOf S r + ((t.base : Int) + (l : Int)) = D.start r + ((t.base + l : Nat) : Int) := by
      rw [d.start]
      push_cast
      rfl
    obtain ⟨c1, c2⟩ := d.cell h2
    refine ⟨⟨by rw [d.le]; exact h1, by rw [e]; exact c2⟩, ?_⟩
    show Except.ok (cellAt S _) = Except.ok _
    rw [e, c1]
  | spread p r =>
    obtain ⟨h1, h2⟩ := ok
    refine ⟨trivial, ?_⟩
    show Except.ok spr = Except.ok _
    rw [hs p r rfl, d.start, (d.cell h2).1]
  | gather p q r =>
    obtain ⟨h1, a, h2, h3⟩ := ok
    obtain ⟨e1, e2⟩ := hv q a h2
    refine ⟨⟨e1, by rw [d.le]; exact h1, ?_⟩, ?_⟩
    · rw [e2, d.le, d.start]
      exact fun x y => (d.cell (h3 x y)).2
    · rw [got_gather]
      show _ = (if 0 ≤ v.get q ∧ v.get q < (D.lengths[r]?).getD 0 then Except.ok (D.cell (D.start r + v.get q)) else .error "outside" : Except Str Int)
      rw [get_of h2, e2, d.le, d.start]
      by_cases z : 0 ≤ a ∧ a < (D.lengths[r]?).getD 0
      · rw [if_pos z, if_pos z, (d.cell (h3 z.1 z.2)).1]
      · rw [if_neg z, if_neg z]
  | op p s q r =>
    obtain ⟨⟨a, h1⟩, b, h2, h3⟩ := ok
    obtain ⟨e1, e2⟩ := hv q a h1
    obtain ⟨e3, e4⟩ := hv r b h2
    refine ⟨⟨e1, e3, ?_⟩, ?_⟩
    · rw [e4]
      exact h3
    · rw [got_op]
      show _ = doneE s (v.get q) (v.get r)
      rw [get_of h1, get_of h2, e2, e4]
  | copy p q =>
    obtain ⟨a, h1⟩ := ok
    obtain ⟨e1, e2⟩ := hv q a h1
    refine ⟨e1, ?_⟩
    show Except.ok (sv _ _ _ _ _) = Except.ok (v.get q)
    rw [get_of h1, e2]
  | bring p =>
    obtain ⟨a, h1⟩ := ok
    refine ⟨trivial, ?_⟩
    show Except.ok ((S.slot[l]?).getD 0) = Except.ok (v.slot.getD 0)
    rw [h1, hsl a h1]
/-- E, one step on -/
def stepE (D : Data) (st : Stp) (E : Nat → Except Str Env) : Nat → Except Str Env := fun e => match E e with
  | .ok v => laneStep D e st v
  | .error f => .error f
def Bears (D : Data) (t : ST) (st : Stp) (E : Nat → Except Str Env) : Prop := ∀ e v, e < t.many → E e = .ok v → StepOk D e v st
theorem lanes_ok (d : DataOk D S) (hl : st.isLay) (I : LaneInv S t E) (hm : t.base + t.width ≤ t.many) (ok : Bears D t st E) {spr : Int} {l : Nat} (hw : l < t.width) (hf : Fine t.kvs l = true) (hs : ∀ p r, st = .spread p r → spr = cellAt S (startOf S r + 0)) :
    ∃ v, E (t.base + l) = .ok v ∧ LaneAt S t l (.ok v) ∧ LaneOk S t st l ∧ got S t spr st l = laneGot D (t.base + l) v st := by
  have h := I l hw
  cases e : E (t.base + l) with
  | error f =>
    rw [e] at h
    have := fine_no (show valV t.kvs (Sum.inl (l : Int) : Key) = some (.str f) from h)
    rw [hf] at this
    cases this
  | ok v =>
    rw [e] at h
    exact ⟨v, rfl, h, lane_ok d hl h (ok _ v (by omega) e) hs⟩
theorem lay_inv (d : DataOk D S) (hl : st.isLay) (I : LaneInv S t E) (hm : t.base + t.width ≤ t.many) (ok : Bears D t st E) (hseat : (st.seat + 1) * t.g ≤ 8) {spr : Int} {rows : Nat → List Int} {sp : Nat} {ts : List V} {kvs : List (Key × V)} (hw : t.width ≤ t.g * S.lanes)
    (O : LayPost S t st spr (t.g * S.lanes) rows ts kvs) (hs : ∀ p r l, st = .spread p r → l < t.width → Fine t.kvs l = true → spr = cellAt S (startOf S r + 0)) : LaneInv (S.laid rows sp ts) { t with kvs := kvs } (stepE D st E) := by
  intro l hlw
  have hlw : l < t.width := hlw
  show LaneAt _ _ l (stepE D st E (t.base + l))
  cases hf : Fine t.kvs l with
  | false =>
    have h := I l hlw
    cases e : E (t.base + l) with
    | ok v =>
      rw [e] at h
      have := h.1
      rw [hf] at this
      cases this
    | error f =>
      rw [e] at h
      have es : stepE D st E (t.base + l) = .error f := by
        unfold stepE
        rw [e]
      rw [es]
      show valV kvs _ = _
      rw [O.kept l (.inr (.inr hf))]
      exact h
  | true =>
    obtain ⟨v, e, h, h1, h2⟩ := lanes_ok d hl I hm ok hlw hf fun p r es => hs p r l es hlw hf
    have L := O.laid l (by omega) hlw hf
    rw [h2] at L
    have es : stepE D st E (t.base + l) = match laneGot D (t.base + l) v st with
      | .ok n => .ok (v.put st.seat n)
      | .error f => .error f := by
      unfold stepE
      rw [e]
      show laneStep D (t.base + l) st v = _
      unfold laneStep
      cases st with
      | save p => exact hl.elim
      | _ => rfl
    rw [es]
    cases eg : laneGot D (t.base + l) v st with
    | error f =>
      rw [eg] at L
      exact L
    | ok n =>
      rw [eg] at L
      refine ⟨L.2, fun q a hq => ?_, h.2.2⟩
      show _ ∧ sv S.lanes t.g rows q l = a
      have hq : (if q = st.seat then some n else v.seat q) = some a := hq
      by_cases z : q = st.seat
      · rw [if_pos z] at hq
        cases hq
        rw [z]
        exact ⟨hseat, L.1⟩
      · rw [if_neg z] at hq
        obtain ⟨q1, q2⟩ := h.2.1 q a hq
        exact ⟨q1, (O.other q l q1 (by omega) (.inl z)).trans q2⟩
theorem save_inv {p : Nat} (I : LaneInv S t E) (hm : t.base + t.width ≤ t.many) (ok : Bears D t (.save p) E) {slot : List Int} {ts : List V} (hs : ∀ l, l < t.width → Fine t.kvs l = true → slot[l]? = some (sv S.lanes t.g S.rows p l)) :
    LaneInv { S with touches := ts, slot := slot } t (stepE D (.save p) E) := by
  intro l hlw
  have h := I l hlw
  unfold stepE
  cases e : E (t.base + l) with
  | error f =>
    rw [e] at h
    exact h
  | ok v =>
    rw [e] at h
    obtain ⟨a, ha⟩ := ok _ v (by omega) e
    refine ⟨h.1, h.2.1, fun b hb => ?_⟩
    have hb : some (v.get p) = some b := hb
    rw [get_of ha] at hb
    cases hb
    show slot[l]? = _
    rw [hs l hlw h.1, (h.2.1 p a ha).2]
end
end Rb
set_option Elab.async false
set_option linter.all false
set_option maxRecDepth 100000
set_option maxHeartbeats 8000000
/-! the machine plays the code -/
namespace Rb
open PySem PySem.Spec PyProof.Rows L2
def codeV (c g : Nat) (body : List Stp) : List (List V) := [.str "begin", .int c, .int g] :: (body.map Stp.v ++ [[.str "trim"], [.str "store", .int 0, .int 0, .int 0], [.str "stop", .int 0], [.str "next"]])
def CodeAt (H : Hp) (refs : List V) (sts : List (List V)) : Prop := refs.length = sts.length ∧ ∀ (i : Nat) (st : List V), sts[i]? = some st → ∃ a : Addr, refs[i]? = some (V.ref a) ∧ H a = some (.tup st)
def runE (D : Data) (l : List Stp) : Nat → Except Str Env := l.foldl (fun E st => stepE D st E) fun _ => .ok env0
theorem runE_snoc (D : Data) (l : List Stp) (st : Stp) : runE D (l ++ [st]) = stepE D st (runE D l) := by
  unfold runE
  rw [List.foldl_append]
  rfl
def val (D : Data) (body : List Stp) (e : Nat) : Except Str Int := match runE D body e with
  | .ok v => .ok (v.get 0)
  | .error f => .error f
structure BodyOk (D : Data) (g : Nat) (body : List Stp) : Prop where
  len : body.length ≤ 20
  lay : ∀ (k : Nat) (st : Stp), body[k]? = some st → st.isLay → (st.seat + 1) * g ≤ 8
  save : ∀ k p : Nat, body[k]? = some (Stp.save p) → (p + 1) * g ≤ 8
  ok : ∀ (k : Nat) (st : Stp), body[k]? = some st → ∀ e v, e < D.c → runE D (body.take k) e = .ok v → StepOk D e v st
  spr : ∀ k p r : Nat, body[k]? = some (Stp.spread p r) → r ≤ D.lengths.length ∧ D.InR (D.start r + 0)
  fin : ∀ e v, e < D.c → runE D body e = .ok v → (∃ a, v.seat 0 = some a)
  g1 : 1 ≤ g
  g4 : g ≤ 4
  c1 : 1 ≤ D.c
  c64 : D.c ≤ 64
  cc : D.c ≤ D.cells.length
structure CellsInv (D : Data) (body : List Stp) (S : MS) (n : Nat) : Prop where
  le : S.lengths = D.lengths
  cl : S.cells.length = D.cells.length
  dn : ∀ e, e < n → ∃ v, val D body e = .ok v ∧ S.cells[e]? = some v
  up : ∀ j, n ≤ j → S.cells[j]? = D.cells[j]?
theorem CellsInv.data {D : Data} {body : List Stp} {S : MS} {n : Nat} (I : CellsInv D body S n) (h : n ≤ D.c) : DataOk D S := ⟨I.le, fun j hj => I.up j (by omega), I.cl⟩
/-- behind the play: done up to n, there refused or n is the row's end -/
def Outcome (D : Data) (body : List Stp) (cells : List Int) (rv : V) (H : Hp) : Prop :=
  ∃ n, n ≤ D.c ∧ cells.length = D.cells.length ∧ (∀ e, e < n → ∃ v, val D body e = .ok v ∧ cells[e]? = some v) ∧ (∀ j, n ≤ j → cells[j]? = D.cells[j]?) ∧
    ((n = D.c ∧ rv = .non) ∨ (n < D.c ∧ ∃ f r, val D body n = .error f ∧ rv = .ref r ∧ H r = some (.tup [.int 0, .int (n : Nat), .str f])))
def spRan (K : PySem.W.Frag) : Sp := fun vs H Q _ => ∃ (code a b c d : Addr) (refs : List V) (D : Data) (g : Nat) (body : List Stp) (lanes : Nat) (dust picks : List Int), vs = [.ref code, .ref a, .ref b, .int lanes, .ref c, .ref d] ∧ H code = some (.lst refs) ∧ CodeAt H refs (codeV D.c g body) ∧ BodyOk D g body ∧
  SqL K H a (D.lengths.map V.int) ∧ SqL K H b (D.cells.map V.int) ∧ SqL K H c (dust.map V.int) ∧ SqL K H d (picks.map V.int) ∧ H a ≠ none ∧ H b ≠ none ∧ H c ≠ none ∧ H d ≠ none ∧ 1 ≤ lanes ∧ lanes ≤ 16 ∧ dust.length ≤ 1000 ∧
  ∀ p H' c' t' rv cells, Same H H' → H' p = some (.tup [.ref c', rv, .ref t']) → H' c' = some (.lst (cells.map V.int)) → Outcome D body cells rv H' → Q (.ref p) H'
theorem Outcome.same {D : Data} {body : List Stp} {cells : List Int} {rv : V} {H H' : Hp} (O : Outcome D body cells rv H) (e : Same H H') : Outcome D body cells rv H' := by
  obtain ⟨n, h1, h2, h3, h4, h⟩ := O
  refine ⟨n, h1, h2, h3, h4, ?_⟩
  rcases h with h | ⟨h5, f, r, h6, h7, h8⟩
  · exact .inl h
  · exact .inr ⟨h5, f, r, h6, h7, e _ _ h8⟩
/-- the strip that is played, of D's elements -/
structure Strip0 (K : PySem.W.Frag) (L : Lay) (S : MS) (t : ST) (H0 H : Hp) (D : Data) (g : Nat) : Prop where
  m : Mach K L S t H
  n0 : H0 t.n = none
  f0 : H0 t.f = none
  mm : t.many = D.c
  gg : t.g = g
  bg : t.began = min (D.c - t.base) (g * S.lanes)
  bb : t.base < D.c
structure Cutt (D : Data) (body : List Stp) (t : ST) : Prop where
  fine : ∀ l, l < t.width → Fine t.kvs l = true
  cut : (t.cut = .non ∧ t.width = t.began) ∨ ∃ f, t.cut = .int t.width ∧ t.width < t.began ∧ valV t.kvs (Sum.inl (t.width : Int) : Key) = some (.str f) ∧ runE D body (t.base + t.width) = .error f
section
variable (K : PySem.W.Frag) (D : Data) (g : Nat) (body : List Stp) (L : Lay) (S : MS) (H0 H : Hp) (j m : Nat)
def R1 : Prop := j = 0 ∧ m = 100000 ∧ CellsInv D body S 0 ∧ S.touches.length = 0
def R2 : Prop := ∃ t k, j = 1 + k ∧ k ≤ body.length ∧ Strip0 K L S t H0 H D g ∧ t.cut = .non ∧ t.width = t.began ∧ LaneInv S t (runE D (body.take k)) ∧ t.kvs.length ≤ 64 * k ∧ S.touches.length ≤ 100 * (30 * t.base + k) ∧ CellsInv D body S t.base ∧ m = (D.c - t.base) * 100 + (60 - k)
def R3 : Prop := ∃ t, j = body.length + 2 ∧ Strip0 K L S t H0 H D g ∧ Cutt D body t ∧ LaneInv S t (runE D body) ∧ S.touches.length ≤ 100 * (30 * t.base + 22) ∧ CellsInv D body S t.base ∧ m = (D.c - t.base) * 100 + 30
def R4 : Prop := ∃ t, j = body.length + 3 ∧ Strip0 K L S t H0 H D g ∧ Cutt D body t ∧ S.touches.length ≤ 100 * (30 * t.base + 23) ∧ CellsInv D body S (t.base + t.width) ∧ m = (D.c - t.base) * 100 + 20
def R5 : Prop := ∃ t, j = body.length + 4 ∧ Strip0 K L S t H0 H D g ∧ t.cut = .non ∧ S.touches.length ≤ 100 * (30 * t.base + 23) ∧ CellsInv D body S (t.base + t.began) ∧ m = (D.c - t.base) * 100 + 10
def Rg : Prop := R1 D body S j m ∨ R2 K D g body L S H0 H j m ∨ R3 K D g body L S H0 H j m ∨ R4 K D g body L S H0 H j m ∨ R5 K D g body L S H0 H j m
end
/-- the loop's word -/
def WR (K : PySem.W.Frag) (D : Data) (g : Nat) (body : List Stp) (L : Lay) (H : Hp) (y dy : Addr) (tr : V) (dust : List Int) (lanes : Nat) (code a b c d : Addr) (m : Nat) (σ : L2.St) (H3 : Hp) : Prop :=
  ∃ (S : MS) (rv : V) (ahead opened : Nat), σ = [some (.ref code), some (.ref a), some (.ref b), some (.int lanes), some (.ref c), some (.ref d), some (.ref L.b), some (.ref y), some rv] ∧ Same H H3 ∧ H3 y = some (courseO K dy ahead opened tr) ∧ BenchAt K L S H3 ∧ S.lanes = lanes ∧ S.stock = dust ∧
    ((rv = .non ∧ (opened = 1 ∨ ahead = 0) ∧ Rg K D g body L S H H3 ahead m) ∨ ((rv ≠ .non ∨ ahead = body.length + 5) ∧ Outcome D body S.cells rv H3))
theorem Mach.course {K : PySem.W.Frag} {L : Lay} {S : MS} {t : ST} {H : Hp} (M : Mach K L S t H) {c dx : Addr} {x y : Int} {tr : V} {o : HO} (hc : H c = some (courseO K dx x y tr)) : Mach K L S t (upd H c o) := by
  obtain ⟨ndx, hn⟩ := M.n
  exact { M with b := M.b.otherKd hc (by show 2 + 3 ≠ 0; decide) (by show 2 + 3 ≠ 4; decide) (by show 2 + 3 ≠ 15; decide), n := ⟨ndx, (upd_ne (kd_ne hn hc (by show 2 + 7 ≠ 2 + 3; decide))).trans hn⟩, f := (upd_ne (kd_ne M.f hc (by show 1 ≠ 2 + 3; decide))).trans M.f }
theorem Mach.notC {K : PySem.W.Frag} {L : Lay} {S : MS} {t : ST} {H : Hp} (M : Mach K L S t H) {c dx : Addr} {x y : Int} {tr : V} (hc : H c = some (courseO K dx x y tr)) : ¬ OwnS L t c := by
  rintro (z | z | z)
  · exact M.b.notOwn hc (by show 2 + 3 ≠ 0; decide) (by show 2 + 3 ≠ 4; decide) (by show 2 + 3 ≠ 15; decide) z
  · obtain ⟨dx, hn⟩ := M.n
    exact kd_ne hc hn (by show 2 + 3 ≠ 2 + 7; decide) z
  · exact kd_ne hc M.f (by show 2 + 3 ≠ 1; decide) z
theorem CodeAt.same {H H' : Hp} {refs : List V} {sts : List (List V)} (c : CodeAt H refs sts) (e : Same H H') : CodeAt H' refs sts := ⟨c.1, fun i st h => by
  obtain ⟨a, h1, h2⟩ := c.2 i st h
  exact ⟨a, h1, e _ _ h2⟩⟩
section
variable {P : Program} {w : World} {K : PySem.W.Frag} {mg : Str → Option Value} {base : Heap}
theorem sc_ran : FnScope ["code", "lengths", "cells", "lanes", "dust", "picks", "bench", "course", "refusal"] ["code", "lengths", "cells", "lanes", "dust", "picks"] (defScope s_ran) := ⟨rfl, rfl, rfl, by decide +kernel, rfl, by decide +kernel, by decide +kernel⟩
theorem bi_ran {K : PySem.W.Frag} {f : Addr} {fd : FuncData} (F : FunD K "ran" "ran" (defArgs s_ran) (defBody s_ran) (defScope s_ran) [] [] f fd) : Binds K fd ["code", "lengths", "cells", "lanes", "dust", "picks"] [] := F.bindsN fun _ _ _ _ _ _ us hl => match us, hl with | [_, _, _, _, _, _], _ => rfl
theorem ok_ran (T : Tx K mg) : Gd P w K mg base CX0 9 (He.fAd K ("ran", none)) ["code", "lengths", "cells", "lanes", "dust", "picks"] [] (spRan K) := by
  obtain ⟨fd_Bench_init, G_Bench_init, p_Bench_init, ds_Bench_init, v_Bench_init, b_Bench_init⟩ := ok_Bench_init (P := P) (w := w) (base := base) T
  obtain ⟨fd_Course_init, G_Course_init, p_Course_init, ds_Course_init, v_Course_init, b_Course_init⟩ := ok_Course_init (P := P) (w := w) (base := base) T
  obtain ⟨fd_play_step, G_play_step, p_play_step, ds_play_step, v_play_step, b_play_step⟩ := ok_play_step (P := P) (w := w) (base := base) T
  refine gd_mk T.d_ran sc_ran (fun F => bn (bi_ran F)) (fun vs H Q E h => ?_) (fun cdv A outer s H vs Q E hr h => ?_)
  · obtain ⟨_, _, _, _, _, _, _, _, _, _, _, _, rfl, _⟩ := h
    rfl
  · obtain ⟨code, a, b, c, d, refs, D, g, body, lanes, dust, picks, rfl, hcode, hrefs, BO, ha, hb, hc, hd, na, nb, nc, nd, hl1, hl16, hdl, k⟩ := h
    refine ⟨_, (pss_cons (ps_set (i := 6) sc_ran.nd rfl (Or.inl rfl) (pe_make T.k_Bench G_Bench_init (hr.mono (by decide)) rfl T.g_Bench b_Bench_init v_Bench_init pass0 (pa_cons (pv 1) (pa_cons (pv 2) (pa_cons (pv 3) (pa_cons (pv 4) (pa_cons (pv 5) pa_nil)))))))
  (pss_cons (ps_set (i := 7) sc_ran.nd rfl (Or.inl rfl) (pe_make0 T.k_Course G_Course_init (hr.mono (by decide)) rfl T.g_Course b_Course_init v_Course_init pass0))
  (pss_cons (ps_set (i := 8) sc_ran.nd rfl (Or.inl rfl) pe_non)
  (pss_cons (ps_while PassesOwn.never (PW.pt (pw_and (pt_cmpR op_lt (pe_fld (pv 7) rfl) (pe_callB call_len_seq (by rfl) T.b_len boot_len (pa_cons (pv 0) pa_nil)) (nomark _)) (pw_and1 (pt_cmpR op_isN (pv 8) pe_non (nomark _)))))
  (pss_cons (ps_fld (pv 6) (pe_fld (pv 7) rfl) rfl)
  (pss_cons (ps_fldaug (pv 7) pe_int in_add)
  (pss_one (ps_set (i := 8) sc_ran.nd rfl (Or.inl rfl) (pe_call G_play_step (hr.mono (by decide)) rfl T.g_play_step p_play_step b_play_step v_play_step pass0 (pa_cons (pv 6) (pa_cons (pv 7) (pa_cons (pe_ix ix_list (pv 0) (pe_fld (pv 6) rfl) (fun _ _ => rfl)) pa_nil)))))))))
  (pss_one (ps_ret (pe_tup (pa_cons (pe_fld (pv 6) rfl) (pa_cons (pv 8) (pa_cons (pe_fld (pv 6) rfl) pa_nil)))))))))), ?_⟩
    -- the bench, the course
    refine ⟨_, rfl, _, rfl, _, rfl, _, rfl, _, rfl, fun x dx hx hdx hne => ?_⟩
    have smd : Same H (upd (upd H dx (.own x)) x (.ins (He.ga K "Bench") dx [])) := fun z o hz => by
      rw [upd_ne (ne_of_none hz hx), upd_ne (ne_of_none hz hdx)]
      exact hz
    have nx : ∀ {z : Addr}, H z ≠ none → z ≠ x := fun {z} hz e => hz (e ▸ hx)
    refine ⟨x, dx, a, b, c, d, D.lengths, D.cells, lanes, dust, picks, rfl, upd_same, smd.seq ha, smd.seq hb, smd.seq hc, smd.seq hd, nx na, nx nb, nx nc, nx nd, hl1, hl16, fun L H1 eL B1 f1 own1 => ⟨rfl, ?_⟩⟩
    have s1 : Same H H1 := fun z o hz => f1 z o (smd z o hz) (ne_of_none hz hx)
    have own0 : ∀ z, Own L z → H z = none := fun z hz => by
      rcases own1 z hz with e | e
      · rw [e]; exact hx
      · exact smd.free e
    refine fun y dy hy hdy hney => ⟨y, dy, rfl, upd_same, fun tr H2 hy2 f2 => ⟨rfl, ?_⟩⟩
    have smd2 : Same H1 (upd (upd H1 dy (.own y)) y (.ins (He.ga K "Course") dy [])) := fun z o hz => by
      rw [upd_ne (ne_of_none hz hy), upd_ne (ne_of_none hz hdy)]
      exact hz
    have s2 : Same H1 H2 := fun z o hz => f2 z o (smd2 z o hz) (ne_of_none hz hy)
    have y0 : H y = none := s1.free hy
    have B2 := B1.same s2
    subst eL
    have hlen : refs.length = body.length + 5 := by
      rw [hrefs.1]
      unfold codeV
      rw [List.length_cons, List.length_append, List.length_map]
      rfl
    refine ⟨WR K D g body L H y dy tr dust lanes code a b c d, ⟨100000, initS D.lengths D.cells lanes dust, .non, 0, 0, rfl, s1.trans s2, hy2, B2, rfl, rfl, .inl ⟨rfl, .inr rfl, .inl ⟨rfl, rfl, ⟨rfl, rfl, fun e h => absurd h (Nat.not_lt_zero e), fun _ _ => rfl⟩, rfl⟩⟩⟩, ?_⟩
    rintro m σ H3 ⟨S, rv, ahead, opened, rfl, s3, hy3, B3, eln, estk, hst⟩
    -- the test
    refine ⟨_, rfl, _, _, _, _, _, rfl, hy3, T.c_Course, T.n_Course_ahead, L_Course_ahead, _, rfl, code, _, rfl, .inl (seql (s3 _ _ hcode)), _, _, rfl, rfl, _, rfl, ?_⟩
    rcases hst with ⟨rfl, hop, hRg⟩ | ⟨hend, O⟩
    rotate_left
    · -- the end
      have fin : ∀ p, H3 p = none → Q (.ref p) (upd H3 p (.tup [.ref L.cells, rv, .ref L.tch])) := fun p hp => k p _ L.cells L.tch rv S.cells (s3.trans (same_new hp)) upd_same (same_new hp _ _ B3.cells) (O.same (same_new hp))
      by_cases hlt : (ahead : Int) < (refs.length : Int)
      · rw [decide_eq_true hlt]
        refine iteT ⟨_, rfl, rfl, _, rfl, ?_⟩
        have hrv : rv ≠ .non := by
          rcases hend with h | h
          · exact h
          · omega
        rw [decide_eq_false hrv]
        exact iteF ⟨_, rfl, _, _, _, _, _, rfl, B3.b, T.c_Bench, T.n_Bench_cells, L_Bench_cells, _, rfl, _, rfl, _, _, _, _, _, rfl, B3.b, T.c_Bench, T.n_Bench_touches, L_Bench_touches, (by show 3 ≤ sizeLine; decide), fin⟩
      · rw [decide_eq_false hlt]
        exact iteF (iteF ⟨_, rfl, _, _, _, _, _, rfl, B3.b, T.c_Bench, T.n_Bench_cells, L_Bench_cells, _, rfl, _, rfl, _, _, _, _, _, rfl, B3.b, T.c_Bench, T.n_Bench_touches, L_Bench_touches, (by show 3 ≤ sizeLine; decide), fin⟩)
    have hja : ahead < body.length + 5 := by
      rcases hRg with ⟨h, _⟩ | ⟨t, kk, h, h2, _⟩ | ⟨t, h, _⟩ | ⟨t, h, _⟩ | ⟨t, h, _⟩ <;> omega
    rw [decide_eq_true (show (ahead : Int) < (refs.length : Int) by omega)]
    refine iteT ⟨_, rfl, rfl, _, rfl, iteT ⟨_, fun σ' H' n => n, ?_⟩⟩
    -- bench.place = course.ahead; course.ahead += 1
    refine ⟨_, rfl, _, _, _, _, _, rfl, hy3, T.c_Course, T.n_Course_ahead, L_Course_ahead, _, rfl, _, _, _, _, rfl, B3.b, T.c_Bench, T.n_Bench_place, N_Bench, ?_⟩
    rw [P_Bench_place]
    have nby : y ≠ L.b := kd_ne hy3 B3.b (by show 2 + 3 ≠ 2 + 13; decide)
    have B4 := B3.setB (ahead : Int) S.now
    have hy4 := (upd_ne (o := .ins (C_Bench K) L.bdx (F_Bench (.ref L.lens) (.ref L.cells) (.int S.lanes) (.ref L.bx) (.ref L.ml) (.ref L.sl) (.ref L.du) (.ref L.pk) (.int (ahead : Int)) (.ref L.tch) S.now .non (.bl false))) nby).trans hy3
    refine ⟨_, rfl, _, _, _, _, _, rfl, hy4, T.c_Course, T.n_Course_ahead, L_Course_ahead, _, _, rfl, rfl, _, _, hy4, N_Course, ?_⟩
    rw [P_Course_ahead]
    have B5 := B4.otherKd (o := .ins (C_Course K) dy (F_Course (.int ((ahead : Int) + 1)) (.int opened) tr)) hy4 (by show 2 + 3 ≠ 0; decide) (by show 2 + 3 ≠ 4; decide) (by show 2 + 3 ≠ 15; decide)
    have su : ∀ {H' : Hp} {z : Addr} {o : HO}, H z = none → Same H H' → Same H (upd H' z o) := fun {H' z o} hz e q u hq => (upd_ne (ne_of_none hq hz)).trans (e q u hq)
    have hb0 : H L.b = none := own0 L.b (.inl rfl)
    have s5 : Same H (upd (upd H3 L.b (.ins (C_Bench K) L.bdx (F_Bench (.ref L.lens) (.ref L.cells) (.int S.lanes) (.ref L.bx) (.ref L.ml) (.ref L.sl) (.ref L.du) (.ref L.pk) (.int (ahead : Int)) (.ref L.tch) S.now .non (.bl false)))) y (.ins (C_Course K) dy (F_Course (.int ((ahead : Int) + 1)) (.int opened) tr))) := su y0 (su hb0 s3)
    have hy5 : (upd (upd H3 L.b (.ins (C_Bench K) L.bdx (F_Bench (.ref L.lens) (.ref L.cells) (.int S.lanes) (.ref L.bx) (.ref L.ml) (.ref L.sl) (.ref L.du) (.ref L.pk) (.int (ahead : Int)) (.ref L.tch) S.now .non (.bl false)))) y (.ins (C_Course K) dy (F_Course (.int ((ahead : Int) + 1)) (.int opened) tr))) y = some (courseO K dy ((ahead : Int) + 1) opened tr) := upd_same
    have mach5 : ∀ {t : ST}, Mach K L S t H3 → Mach K L { S with place := (ahead : Int) } t (upd (upd H3 L.b (.ins (C_Bench K) L.bdx (F_Bench (.ref L.lens) (.ref L.cells) (.int S.lanes) (.ref L.bx) (.ref L.ml) (.ref L.sl) (.ref L.du) (.ref L.pk) (.int (ahead : Int)) (.ref L.tch) S.now .non (.bl false)))) y (.ins (C_Course K) dy (F_Course (.int ((ahead : Int) + 1)) (.int opened) tr))) := fun {t} M => (M.setPlace (ahead : Int)).course hy4
    revert s5 hy5 B5 mach5
    generalize (upd (upd H3 L.b (.ins (C_Bench K) L.bdx (F_Bench (.ref L.lens) (.ref L.cells) (.int S.lanes) (.ref L.bx) (.ref L.ml) (.ref L.sl) (.ref L.du) (.ref L.pk) (.int (ahead : Int)) (.ref L.tch) S.now .non (.bl false)))) y (.ins (C_Course K) dy (F_Course (.int ((ahead : Int) + 1)) (.int opened) tr))) = H5
    intro B5 s5 hy5 mach5
    obtain ⟨stv, hstv⟩ : ∃ stv, (codeV D.c g body)[ahead]? = some stv := by
      refine ⟨_, List.getElem?_eq_getElem ?_⟩
      rw [← hrefs.1, hlen]
      exact hja
    obtain ⟨aj, haj, haj0⟩ := hrefs.2 ahead stv hstv
    have haj5 := s5 _ _ haj0
    refine ⟨_, rfl, _, rfl, _, rfl, _, rfl, _, _, _, _, _, rfl, B5.b, T.c_Bench, T.n_Bench_place, L_Bench_place, code, refs, _, .ref aj, rfl, rfl, seql (s5 _ _ hcode), atI_nat haj, L.b, y, aj, rfl, ?_⟩
    have hdl2 : S.stock.length ≤ 1000 := by rw [estk]; exact hdl
    have hy6 : H5 y = some (courseO K dy ((ahead + 1 : Nat) : Int) opened tr) := by
      push_cast
      exact hy5
    -- what stays
    have stay : ∀ {t : ST} {S' : MS} {H' : Hp}, Mach K L S' t H5 → H t.n = none → H t.f = none → FrS L t H5 H' → Same H H' ∧ H' y = some (courseO K dy ((ahead + 1 : Nat) : Int) opened tr) := fun {t S' H'} M hn hf f => by
      refine ⟨fun z o hz => f z o (s5 z o hz) ?_, f y _ hy6 (M.notC hy6)⟩
      rintro (e | e | e)
      · exact ne_of_none hz (own0 z e) rfl
      · rw [e, hn] at hz; cases hz
      · rw [e, hf] at hz; cases hz
    have len0 : (codeV D.c g body).length = body.length + 5 := by rw [← hrefs.1]; exact hlen
    have at_body : ∀ {kk : Nat} {st : Stp}, body[kk]? = some st → (codeV D.c g body)[1 + kk]? = some st.v := fun {kk st} h => by
      unfold codeV
      rw [Nat.add_comm, List.getElem?_cons_succ, List.getElem?_append_left (by rw [List.length_map]; exact (List.getElem?_eq_some_iff.mp h).1), List.getElem?_map, h]
      rfl
    have at_end : ∀ (i : Nat), (codeV D.c g body)[body.length + 1 + i]? = ([[.str "trim"], [.str "store", .int 0, .int 0, .int 0], [.str "stop", .int 0], [.str "next"]] : List (List V))[i]? := fun i => by
      unfold codeV
      rw [show body.length + 1 + i = (body.length + i) + 1 by omega, List.getElem?_cons_succ, List.getElem?_append_right (by rw [List.length_map]; omega), List.length_map]
      congr 1
      omega
    have goR : ∀ (H' : Hp) (S' : MS) (j' op' m' : Nat), m' < m → Same H H' → H' y = some (courseO K dy j' op' tr) → BenchAt K L S' H' → S'.lanes = lanes → S'.stock = dust → (op' = 1 ∨ j' = 0) → Rg K D g body L S' H H' j' m' →
        ∃ m'', m'' < m ∧ WR K D g body L H y dy tr dust lanes code a b c d m'' [some (.ref code), some (.ref a), some (.ref b), some (.int lanes), some (.ref c), some (.ref d), some (.ref L.b), some (.ref y), some .non] H' := fun H' S' j' op' m' hm hs hy' hB h1 h2 h3 h4 => ⟨m', hm, S', .non, j', op', rfl, hs, hy', hB, h1, h2, .inl ⟨rfl, h3, h4⟩⟩
    have goE : ∀ (H' : Hp) (S' : MS) (j' op' : Nat) (rv : V), 0 < m → Same H H' → H' y = some (courseO K dy j' op' tr) → BenchAt K L S' H' → S'.lanes = lanes → S'.stock = dust → (rv ≠ .non ∨ j' = body.length + 5) → Outcome D body S'.cells rv H' →
        ∃ m'', m'' < m ∧ WR K D g body L H y dy tr dust lanes code a b c d m'' [some (.ref code), some (.ref a), some (.ref b), some (.int lanes), some (.ref c), some (.ref d), some (.ref L.b), some (.ref y), some rv] H' := fun H' S' j' op' rv hm hs hy' hB h1 h2 h3 h4 => ⟨0, hm, S', rv, j', op', rfl, hs, hy', hB, h1, h2, .inr ⟨h3, h4⟩⟩
    have BOc := BO.c64
    have BOl := BO.len
    -- a strip that has just begun
    have newStrip : ∀ (H' : Hp) (S' : MS) (n f : Addr) (bs : Nat), Mach K L S' (stripAt0 n f D.c g bs S'.lanes) H' → H n = none → H f = none → bs < D.c → S'.touches.length ≤ 100 * (30 * bs) → CellsInv D body S' bs → R2 K D g body L S' H H' 1 ((D.c - bs) * 100 + 60) := fun H' S' n f bs M' hn hf hb ht I' =>
      ⟨stripAt0 n f D.c g bs S'.lanes, 0, rfl, Nat.zero_le _, ⟨M', hn, hf, rfl, rfl, rfl, hb⟩, rfl, rfl, fun l _ => ⟨rfl, fun q a h => (nomatch h), fun a h => (nomatch h)⟩, Nat.zero_le _, ht, I', rfl⟩
    rcases hRg with ⟨e1, e2, I, e3⟩ | ⟨t, kk, e1, hkk, Z, hcut, hwd, LI, hkv, htc, I, em⟩ | ⟨t, e1, Z, C, LI, htc, I, em⟩ | ⟨t, e1, Z, C, htc, I, em⟩ | ⟨t, e1, Z, hcut, htc, I, em⟩
    · -- begin
      subst e1
      have ev : stv = [.str "begin", .int D.c, .int g] := (Option.some.inj hstv).symm
      subst ev
      refine .inr (.inr (.inr (.inl ⟨_, haj5, L, { S with place := ((0 : Nat) : Int) }, y, aj, dy, _, _, tr, D.c, g, rfl, haj5, hy6, B5, BO.g1, BO.g4, BO.c1, by omega, hdl2, fun H' mask sp n f M' f' hn hf => ?_⟩)))
      have hn0 : H n = none := by
        have h1 : n ≠ y := fun e => by rw [e, upd_same] at hn; cases hn
        rw [upd_ne h1] at hn
        exact s5.free hn
      have hf0 : H f = none := by
        have h1 : f ≠ y := fun e => by rw [e, upd_same] at hf; cases hf
        rw [upd_ne h1] at hf
        exact s5.free hf
      have hyo : ¬ Own L y := B5.notOwn hy6 (by show 2 + 3 ≠ 0; decide) (by show 2 + 3 ≠ 4; decide) (by show 2 + 3 ≠ 15; decide)
      have hs' : Same H H' := fun z o hz => f' z o (su y0 s5 z o hz) fun e => ne_of_none hz (own0 z e) rfl
      exact goR H' _ 1 1 _ (by omega) hs' (f' y _ upd_same hyo) M'.b eln estk (.inl rfl) (.inr (.inl (newStrip H' _ n f 0 M' hn0 hf0 BO.c1 (by show S.touches.length ≤ _; omega) ⟨I.le, I.cl, I.dn, I.up⟩)))
    · -- the body, or trim
      have M5 := mach5 Z.m
      have hmn : t.base + t.width ≤ t.many := Nat.le_trans (Nat.add_le_add_left Z.m.wb _) Z.m.mn
      have dS := I.data (Nat.le_of_lt Z.bb)
      have hgl := Z.m.gl
      have hgl2 : t.g * S.lanes ≤ 64 := Nat.le_trans (Nat.mul_le_mul Z.m.g4 Z.m.b.nlanes.2) (by decide)
      have hbb := Z.bb
      by_cases hk : kk < body.length
      · obtain ⟨st, hst⟩ : ∃ st, body[kk]? = some st := ⟨_, List.getElem?_eq_getElem hk⟩
        subst e1
        have ev : stv = st.v := by
          rw [at_body hst] at hstv
          exact (Option.some.inj hstv).symm
        subst ev
        have bears : Bears D t st (runE D (body.take kk)) := fun e v he h => BO.ok kk st hst e v (by rw [← Z.mm]; exact he) h
        have etk : body.take (kk + 1) = body.take kk ++ [st] := by
          rw [List.take_add_one, hst]
          rfl
        by_cases hl : st.isLay
        · have hseat : (st.seat + 1) * t.g ≤ 8 := by
            rw [Z.gg]
            exact BO.lay kk st hst hl
          refine .inl ⟨st, haj5, hl, L, { S with place := ((1 + kk : Nat) : Int) }, t, aj, st, rfl, haj5, M5, hseat, fun l h1 h2 => ?_, fun p r e => ?_, by show S.touches.length < _; omega, by omega, hdl2, fun H' rows sp ts kvs spr M' f' O hs => ?_⟩
          · have z : ∀ spr : Int, (∀ p r, st = .spread p r → spr = cellAt S (startOf S r + 0)) → LaneOk S t st l := fun spr h => (lanes_ok dS hl LI hmn bears h1 h2 h).elim fun v h => h.2.2.1
            cases st with
            | spread p r =>
              refine z (cellAt S (startOf S r + 0)) fun p' r' e => ?_
              injection e with e1 e2
              rw [e2]
            | _ => exact z 0 fun _ _ e => (nomatch e)
          · subst e
            obtain ⟨h1, h2⟩ := BO.spr kk p r hst
            refine ⟨by show r ≤ S.lengths.length; rw [I.le]; exact h1, ?_⟩
            have := (dS.cell h2).2
            rw [← dS.start] at this
            exact this
          · obtain ⟨s', y'⟩ := stay M5 Z.n0 Z.f0 f'
            have ol : ts.length ≤ S.touches.length + 1 + t.g * S.lanes := O.tl
            have ok := O.kl
            refine goR H' _ (1 + kk + 1) opened ((D.c - t.base) * 100 + (60 - (kk + 1))) (by omega) s' y' M'.b eln estk (.inl (by omega)) (.inr (.inl ⟨{ t with kvs := kvs }, kk + 1, by omega, hk, ⟨M', Z.n0, Z.f0, Z.mm, Z.gg, Z.bg, Z.bb⟩, hcut, hwd, ?_, ?_, ?_, ⟨I.le, I.cl, I.dn, I.up⟩, rfl⟩))
            · rw [etk, runE_snoc]
              exact lay_inv (S := { S with place := ((1 + kk : Nat) : Int) }) ⟨I.le, fun j hj => I.up j (by omega), I.cl⟩ hl LI hmn bears hseat hgl.2 O hs
            · show kvs.length ≤ _
              have ok' : kvs.length ≤ t.kvs.length + t.g * S.lanes := ok
              omega
            · show ts.length ≤ 100 * (30 * t.base + (kk + 1))
              omega
        · cases st with
          | save p =>
            have hseat : (p + 1) * t.g ≤ 8 := by
              rw [Z.gg]
              exact BO.save kk p hst
            refine .inr (.inl ⟨_, haj5, L, { S with place := ((1 + kk : Nat) : Int) }, t, aj, p, rfl, haj5, M5, hseat, by show S.touches.length < _; omega, fun H' slot ts M' f' ht hs => ?_⟩)
            obtain ⟨s', y'⟩ := stay M5 Z.n0 Z.f0 f'.s
            have ht' : ts.length ≤ S.touches.length + 64 := ht
            refine goR H' _ (1 + kk + 1) opened ((D.c - t.base) * 100 + (60 - (kk + 1))) (by omega) s' y' M'.b eln estk (.inl (by omega)) (.inr (.inl ⟨t, kk + 1, by omega, hk, ⟨M', Z.n0, Z.f0, Z.mm, Z.gg, Z.bg, Z.bb⟩, hcut, hwd, ?_, by omega, ?_, ⟨I.le, I.cl, I.dn, I.up⟩, rfl⟩))
            · rw [etk, runE_snoc]
              exact save_inv (S := { S with place := ((1 + kk : Nat) : Int) }) LI hmn bears hs
            · show ts.length ≤ 100 * (30 * t.base + (kk + 1))
              omega
          | _ => exact (hl trivial).elim
      · have ek : kk = body.length := by omega
        subst ek
        subst e1
        have ev : stv = [.str "trim"] := by
          rw [show 1 + body.length = body.length + 1 + 0 by omega, at_end 0] at hstv
          exact (Option.some.inj hstv).symm
        subst ev
        rw [List.take_length] at LI
        refine .inr (.inr (.inr (.inr (.inr (.inl ⟨_, haj5, L, { S with place := ((1 + body.length : Nat) : Int) }, t, rfl, M5, hcut, fun H' M' f' => ?_⟩)))))
        obtain ⟨s', y'⟩ := stay M5 Z.n0 Z.f0 f'
        cases ec : cutOf t with
        | none =>
          have et : trimmed t = t := by unfold trimmed; rw [ec]
          rw [et] at M'
          exact goR H' _ (1 + body.length + 1) opened ((D.c - t.base) * 100 + 30) (by omega) s' y' M'.b eln estk (.inl (by omega)) (.inr (.inr (.inl ⟨t, by omega, ⟨M', Z.n0, Z.f0, Z.mm, Z.gg, Z.bg, Z.bb⟩, ⟨cutOf_all ec, .inl ⟨hcut, hwd⟩⟩, LI, by show S.touches.length ≤ _; omega, ⟨I.le, I.cl, I.dn, I.up⟩, rfl⟩)))
        | some l =>
          have et : trimmed t = { t with width := l, cut := .int l } := by unfold trimmed; rw [ec]
          rw [et] at M'
          obtain ⟨c1, c2, c3⟩ := cutOf_lt ec
          have hLl := LI l c1
          obtain ⟨fl, hfl⟩ : ∃ fl, runE D body (t.base + l) = .error fl := by
            cases eq : runE D body (t.base + l) with
            | error fl => exact ⟨fl, rfl⟩
            | ok v =>
              rw [eq] at hLl
              have := hLl.1
              rw [c2] at this
              cases this
          rw [hfl] at hLl
          exact goR H' _ (1 + body.length + 1) opened ((D.c - t.base) * 100 + 30) (by omega) s' y' M'.b eln estk (.inl (by omega)) (.inr (.inr (.inl ⟨{ t with width := l, cut := .int l }, by omega, ⟨M', Z.n0, Z.f0, Z.mm, Z.gg, Z.bg, Z.bb⟩, ⟨c3, .inr ⟨fl, rfl, by show l < t.began; omega, hLl, hfl⟩⟩, fun j hj => LI j (Nat.lt_trans hj c1), by show S.touches.length ≤ 100 * (30 * t.base + 22); omega, ⟨I.le, I.cl, I.dn, I.up⟩, rfl⟩)))
    · -- store
      have M5 := mach5 Z.m
      have hbb := Z.bb
      have hmn : t.base + t.width ≤ D.c := by rw [← Z.mm]; exact Nat.le_trans (Nat.add_le_add_left Z.m.wb _) Z.m.mn
      have hcc := BO.cc
      subst e1
      have ev : stv = [.str "store", .int 0, .int 0, .int 0] := by
        rw [show body.length + 2 = body.length + 1 + 1 by omega, at_end 1] at hstv
        exact (Option.some.inj hstv).symm
      subst ev
      have s00 : startOf S 0 = 0 := rfl
      have hg4 := Z.m.g4
      refine .inr (.inr (.inl ⟨_, haj5, L, { S with place := ((body.length + 2 : Nat) : Int) }, t, aj, 0, 0, rfl, haj5, M5, by omega, by show S.touches.length < _; omega, Nat.zero_le _, fun l h1 h2 => ⟨t.base + l, ?_, ?_⟩, fun H' cells ts M' f' ht hcl hin hout => ?_⟩))
      · show startOf S 0 + _ = _
        rw [s00]
        push_cast
        omega
      · show t.base + l < S.cells.length
        rw [I.cl]
        omega
      · obtain ⟨s', y'⟩ := stay M5 Z.n0 Z.f0 f'.s
        have ht' : ts.length ≤ S.touches.length + 64 := ht
        refine goR H' _ (body.length + 2 + 1) opened ((D.c - t.base) * 100 + 20) (by omega) s' y' M'.b eln estk (.inl (by omega)) (.inr (.inr (.inr (.inl ⟨t, by omega, ⟨M', Z.n0, Z.f0, Z.mm, Z.gg, Z.bg, Z.bb⟩, C, ?_, ⟨I.le, ?_, fun e he => ?_, fun j hj => ?_⟩, rfl⟩))))
        · show ts.length ≤ _
          omega
        · show cells.length = _
          rw [hcl]
          exact I.cl
        · show ∃ v, _ ∧ cells[e]? = some v
          by_cases hlt : e < t.base
          · obtain ⟨v, h1, h2⟩ := I.dn e hlt
            refine ⟨v, h1, ?_⟩
            rw [hout e fun l _ _ => ?_]
            · exact h2
            · show startOf S 0 + _ ≠ _
              rw [s00]
              omega
          · obtain ⟨l, rfl⟩ : ∃ l, e = t.base + l := ⟨e - t.base, by omega⟩
            have hlw : l < t.width := by omega
            have hf := C.fine l hlw
            have hL := LI l hlw
            cases eq : runE D body (t.base + l) with
            | error fl =>
              rw [eq] at hL
              have := fine_no (show valV t.kvs (Sum.inl (l : Int) : Key) = some (.str fl) from hL)
              rw [hf] at this
              cases this
            | ok v =>
              rw [eq] at hL
              obtain ⟨a0, ha0⟩ := BO.fin _ v (by omega) eq
              refine ⟨a0, ?_, ?_⟩
              · unfold val
                rw [eq]
                show Except.ok (v.get 0) = _
                rw [get_of ha0]
              · rw [hin l hlw hf (t.base + l) ?_]
                · exact congrArg some (hL.2.1 0 a0 ha0).2
                · show startOf S 0 + _ = _
                  rw [s00]
                  push_cast
                  omega
        · show cells[j]? = _
          rw [hout j fun l h1 _ => ?_]
          · exact I.up j (by omega)
          · show startOf S 0 + _ ≠ _
            rw [s00]
            omega
    · -- stop
      have M5 := mach5 Z.m
      have hbb := Z.bb
      have hmn : t.base + t.began ≤ D.c := by rw [← Z.mm]; exact Z.m.mn
      subst e1
      have ev : stv = [.str "stop", .int 0] := by
        rw [show body.length + 3 = body.length + 1 + 2 by omega, at_end 2] at hstv
        exact (Option.some.inj hstv).symm
      subst ev
      refine .inr (.inr (.inr (.inr (.inr (.inr ⟨_, haj5, L, { S with place := ((body.length + 3 : Nat) : Int) }, t, aj, 0, rfl, haj5, M5, ?_⟩)))))
      rcases C.cut with ⟨hc, hw⟩ | ⟨fl, hc, hw, hv, hr0⟩
      · refine .inl ⟨hc, ?_⟩
        rw [hw] at I
        exact goR H5 _ (body.length + 3 + 1) opened ((D.c - t.base) * 100 + 10) (by omega) s5 hy6 M5.b eln estk (.inl (by omega)) (.inr (.inr (.inr (.inr ⟨t, by omega, ⟨M5, Z.n0, Z.f0, Z.mm, Z.gg, Z.bg, Z.bb⟩, hc, by show S.touches.length ≤ _; omega, ⟨I.le, I.cl, I.dn, I.up⟩, rfl⟩))))
      · refine .inr ⟨t.width, fl, hc, hv, fun p H' hp e hp2 => ?_⟩
        refine goE H' { S with place := ((body.length + 3 : Nat) : Int) } (body.length + 3 + 1) opened (.ref p) (by omega) (s5.trans e) (e _ _ hy6) (M5.b.same e) eln estk (.inl fun z => (nomatch z)) ⟨t.base + t.width, by omega, I.cl, I.dn, I.up, .inr ⟨by omega, fl, p, ?_, rfl, ?_⟩⟩
        · unfold val
          rw [hr0]
        · rw [hp2]
          push_cast
          rfl
    · -- next
      have M5 := mach5 Z.m
      have hbb := Z.bb
      have hmn : t.base + t.began ≤ D.c := by rw [← Z.mm]; exact Z.m.mn
      subst e1
      have ev : stv = [.str "next"] := by
        rw [show body.length + 4 = body.length + 1 + 3 by omega, at_end 3] at hstv
        exact (Option.some.inj hstv).symm
      subst ev
      have eo : opened = 1 := by omega
      subst eo
      refine .inr (.inr (.inr (.inr (.inl ⟨_, haj5, L, { S with place := ((body.length + 4 : Nat) : Int) }, t, y, dy, _, _, tr, rfl, hy6, M5, hdl2, fun hlt H' mask sp n f M' f' hn hf hy' => ?_, fun hlt => ?_⟩))))
      · have hyo : ¬ Own L y := M5.b.notOwn hy6 (by show 2 + 3 ≠ 0; decide) (by show 2 + 3 ≠ 4; decide) (by show 2 + 3 ≠ 15; decide)
        have hs' : Same H H' := fun z o hz => f' z o (s5 z o hz) fun e => ne_of_none hz (own0 z e) rfl
        have M6 := M'.course (o := courseO K dy ((1 : Nat) : Int) ((1 : Nat) : Int) tr) hy'
        rw [Z.mm, Z.gg] at M6
        have hb1 : 1 ≤ t.began := by
          rw [Z.bg]
          have h1 := Nat.mul_le_mul BO.g1 Z.m.b.nlanes.1
          omega
        rw [Z.mm] at hlt
        refine goR _ _ 1 1 _ ?_ (su y0 hs') upd_same M6.b eln estk (.inl rfl) (.inr (.inl (newStrip _ _ n f (t.base + t.began) M6 (s5.free hn) (s5.free hf) hlt ?_ ⟨I.le, I.cl, I.dn, I.up⟩)))
        · omega
        · show S.touches.length ≤ _
          omega
      · rw [Z.mm] at hlt
        have ee : t.base + t.began = D.c := by omega
        rw [ee] at I
        exact goE H5 { S with place := ((body.length + 4 : Nat) : Int) } (body.length + 4 + 1) 1 .non (by omega) s5 hy6 M5.b eln estk (.inr rfl) ⟨D.c, Nat.le_refl _, I.cl, I.dn, I.up, .inl ⟨rfl, rfl⟩⟩
end
end Rb
set_option Elab.async false
set_option linter.all false
set_option maxRecDepth 100000
set_option maxHeartbeats 4000000
/-! forms made into code -/
namespace Rb
open PySem PySem.Spec PyProof.Rows L2
inductive Fm where
  | num (n : Int)
  | cell (r : Nat)
  | at_ (r : Nat) (f : Fm)
  | pair (s : Str) (a b : Fm)
def Fm.depth : Fm → Nat
  | .num _ => 0
  | .cell _ => 0
  | .at_ _ f => f.depth + 1
  | .pair _ a b => max a.depth b.depth + 1
def Fm.need : Fm → Nat
  | .num _ => 1
  | .cell _ => 1
  | .at_ _ f => f.need
  | .pair _ a b => max a.need (b.need + 1)
def Fm.rows (n : Nat) : Fm → Prop
  | .num _ => True
  | .cell r => r < n
  | .at_ _ f => f.rows n
  | .pair _ a b => a.rows n ∧ b.rows n
def layF (lens : List Int) (seats : Nat) : Fm → Nat → Nat → List (List V)
  | .num n, p, _ => [[.str "number", .int p, .int n, .int 0]]
  | .cell r, p, _ => if (lens[r]?).getD 0 = 1 then [[.str "spread", .int p, .int r, .int 0]] else [[.str "load", .int p, .int r, .int 0]]
  | .at_ r f, p, sl => layF lens seats f p sl ++ [[.str "gather", .int p, .int p, .int r, .int 0]]
  | .pair s a b, p, sl => layF lens seats a p sl ++ ((if p + 1 + b.need ≤ seats then layF lens seats b (p + 1) sl else [.str "save", .int sl, .int p, .int 0] :: (layF lens seats b p (sl + 1) ++ [[.str "copy", .int (p + 1 : Nat), .int p, .int 0], [.str "bring", .int p, .int sl, .int 0]])) ++
      [[.str "op", .int p, .str s, .int p, .int (p + 1 : Nat), .int 0]])
def beside (lens : List Int) (seats : Nat) (b : Fm) (p sl : Nat) : List (List V) := if p + 1 + b.need ≤ seats then layF lens seats b (p + 1) sl else [.str "save", .int sl, .int p, .int 0] :: (layF lens seats b p (sl + 1) ++ [[.str "copy", .int (p + 1 : Nat), .int p, .int 0], [.str "bring", .int p, .int sl, .int 0]])
def FmAt (K : PySem.W.Frag) (H : Hp) : Fm → Addr → Prop
  | .num n, a => ∃ dx, H a = some (.ins (C_Number K) dx (F_Number (.int n)))
  | .cell r, a => ∃ dx, H a = some (.ins (C_Cell K) dx (F_Cell (.int r)))
  | .at_ r f, a => ∃ dx b, H a = some (.ins (C_At K) dx (F_At (.int r) (.ref b))) ∧ FmAt K H f b
  | .pair s x y, a => ∃ dx b c, H a = some (.ins (C_Pair K) dx (F_Pair (.str s) (.ref b) (.ref c))) ∧ FmAt K H x b ∧ FmAt K H y c
def ButL (c : Addr) (H H' : Hp) : Prop := ∀ a o, H a = some o → a ≠ c → H' a = some o
theorem ButL.refl (c : Addr) (H : Hp) : ButL c H H := fun _ _ h _ => h
theorem ButL.trans {c : Addr} {H H1 H2 : Hp} (a : ButL c H H1) (b : ButL c H1 H2) : ButL c H H2 := fun x o h n => b x o (a x o h n) n
theorem FmAt.mono {K : PySem.W.Frag} {H H' : Hp} {c : Addr} {xs : List V} (hc : H c = some (.lst xs)) (f : ButL c H H') : ∀ {m : Fm} {a : Addr}, FmAt K H m a → FmAt K H' m a
  | .num _, _, ⟨dx, h⟩ => ⟨dx, f _ _ h (ne_of h hc (by intro z; cases z))⟩
  | .cell _, _, ⟨dx, h⟩ => ⟨dx, f _ _ h (ne_of h hc (by intro z; cases z))⟩
  | .at_ _ _, _, ⟨dx, b, h, h1⟩ => ⟨dx, b, f _ _ h (ne_of h hc (by intro z; cases z)), FmAt.mono hc f h1⟩
  | .pair _ _ _, _, ⟨dx, b, c, h, h1, h2⟩ => ⟨dx, b, c, f _ _ h (ne_of h hc (by intro z; cases z)), FmAt.mono hc f h1, FmAt.mono hc f h2⟩
theorem FmAt.same {K : PySem.W.Frag} {H H' : Hp} (f : Same H H') : ∀ {m : Fm} {a : Addr}, FmAt K H m a → FmAt K H' m a
  | .num _, _, ⟨dx, h⟩ => ⟨dx, f _ _ h⟩
  | .cell _, _, ⟨dx, h⟩ => ⟨dx, f _ _ h⟩
  | .at_ _ _, _, ⟨dx, b, h, h1⟩ => ⟨dx, b, f _ _ h, FmAt.same f h1⟩
  | .pair _ _ _, _, ⟨dx, b, c, h, h1, h2⟩ => ⟨dx, b, c, f _ _ h, FmAt.same f h1, FmAt.same f h2⟩
/-- references to these steps -/
def StepsAt (H : Hp) : List V → List (List V) → Prop := Paired fun v st => ∃ a, v = V.ref a ∧ H a = some (.tup st)
theorem StepsAt.mono {H H' : Hp} {c : Addr} {xs : List V} (hc : H c = some (.lst xs)) (f : ButL c H H') : ∀ {l : List V} {m : List (List V)}, StepsAt H l m → StepsAt H' l m
  | _, _, .nil => .nil
  | _, _, .cons ⟨a, e, h⟩ t => .cons ⟨a, e, f _ _ h (ne_of h hc (by intro z; cases z))⟩ (StepsAt.mono hc f t)
theorem StepsAt.same {H H' : Hp} (f : Same H H') : ∀ {l : List V} {m : List (List V)}, StepsAt H l m → StepsAt H' l m
  | _, _, .nil => .nil
  | _, _, .cons ⟨a, e, h⟩ t => .cons ⟨a, e, f _ _ h⟩ (StepsAt.same f t)
theorem StepsAt.append {H : Hp} : ∀ {l m : List V} {x y : List (List V)}, StepsAt H l x → StepsAt H m y → StepsAt H (l ++ m) (x ++ y)
  | _, _, _, _, .nil, s => s
  | _, _, _, _, .cons r t, s => .cons r (StepsAt.append t s)
theorem StepsAt.length {H : Hp} {l : List V} {m : List (List V)} (s : StepsAt H l m) : l.length = m.length := Paired.length s
/-- a hand at h, its code at c -/
structure HandAt (K : PySem.W.Frag) (h ln fns c : Addr) (lens : List Int) (seats : Nat) (xs : List V) (H : Hp) : Prop where
  ho : ∃ dx, H h = some (.ins (C_Hand K) dx (F_Hand (.ref ln) (.ref fns) (.int seats) (.ref c)))
  lno : H ln = some (.lst (lens.map V.int))
  co : H c = some (.lst xs)
  nlc : ln ≠ c
theorem HandAt.mono {K : PySem.W.Frag} {h ln fns c : Addr} {lens : List Int} {seats : Nat} {xs ys : List V} {H H' : Hp} (A : HandAt K h ln fns c lens seats xs H) (f : ButL c H H') (hc : H' c = some (.lst ys)) : HandAt K h ln fns c lens seats ys H' := by
  obtain ⟨dx, hh⟩ := A.ho
  exact ⟨⟨dx, f _ _ hh (ne_of hh A.co (by intro z; cases z))⟩, f _ _ A.lno A.nlc, hc, A.nlc⟩
section
variable {P : Program} {w : World} {K : PySem.W.Frag} {mg : Str → Option Value} {base : Heap}
theorem gd0 {CX : CXT} {x qual : Str} {params : Arguments} {body : List Stmt} {scope : Scope} {f : Addr} {ps : List Str} {k : Nat} {sp : Sp} {dvs dv : List V} {kws : List (Str × V)} (d : ∃ fd, FunD K x qual params body scope dv kws f fd)
    (hb : ∀ {fd}, FunD K x qual params body scope dv kws f fd → ∃ ds, Vals dvs ds ∧ Binds K fd ps ds) (no : ∀ vs H Q E, ¬ sp vs H Q E) : Gd P w K mg base CX k f ps dvs sp := by
  obtain ⟨fd, F⟩ := d
  exact ⟨fd, ⟨fun vs H Q E h => (no _ _ _ _ h).elim, fun A outer s H args us vs Q E _ _ _ _ h => (no _ _ _ _ h).elim⟩, F.kp, hb F⟩
theorem isiB (T : Tx K mg) {H : Hp} {a dx : Addr} {fs : List (Str × V)} (x : Str) (hc : Cls K (He.ga K x)) (h : H a = some (.ins (He.ga K x) dx fs)) (hi : x ∈ inss := by decide +kernel) : TyX K H (.ref a) (.ref (He.ga K x)) :=
  have I := T.ins x hi
  .base (.ins h hc I.ha I.hn I.ht I.hm)
/-! ### inits -/
def spInit1 (C : Addr) (F : V → List (Str × V)) : Sp := fun vs H Q _ => ∃ (p dx : Addr) (x : V), vs = [.ref p, x] ∧ H p = some (.ins C dx []) ∧ Q .non (upd H p (.ins C dx (F x)))
def spInit2 (C : Addr) (F : V → V → List (Str × V)) : Sp := fun vs H Q _ => ∃ (p dx : Addr) (x y : V), vs = [.ref p, x, y] ∧ H p = some (.ins C dx []) ∧ Q .non (upd H p (.ins C dx (F x y)))
def spInit3 (C : Addr) (F : V → V → V → List (Str × V)) : Sp := fun vs H Q _ => ∃ (p dx : Addr) (x y z : V), vs = [.ref p, x, y, z] ∧ H p = some (.ins C dx []) ∧ Q .non (upd H p (.ins C dx (F x y z)))
theorem sc_Number_init : FnScope ["self", "number"] ["self", "number"] (defScope s_Number_init) := ⟨rfl, rfl, rfl, by decide +kernel, rfl, by decide +kernel, by decide +kernel⟩
theorem bi_Number_init {K : PySem.W.Frag} {f : Addr} {fd : FuncData} (F : FunD K "__init__" "Number.__init__" (defArgs s_Number_init) (defBody s_Number_init) (defScope s_Number_init) [] [] f fd) : Binds K fd ["self", "number"] [] := F.bindsN fun _ _ _ _ _ _ us hl => match us, hl with | [_, _], _ => rfl
theorem ok_Number_init (T : Tx K mg) : Gd P w K mg base CX0 1 (He.fAd K ("Number", some "__init__")) ["self", "number"] [] (spInit1 (C_Number K) F_Number) := by
  refine gd_mk T.d_Number_init sc_Number_init (fun F => bn (bi_Number_init F)) (fun vs H Q E h => ?_) (fun cdv A outer s H vs Q E hr h => ?_)
  · obtain ⟨_, _, _, rfl, _⟩ := h
    rfl
  · obtain ⟨p, dx, x, rfl, hp, k⟩ := h
    refine ⟨_, (pss_one (ps_fld (pv 0) (pv 1) rfl)), ?_⟩
    refine ⟨_, rfl, _, rfl, _, _, _, _, rfl, hp, T.c_Number, T.n_Number_number, J_Number_0, ?_⟩
    rw [I_Number_0]
    exact k
theorem sc_Cell_init : FnScope ["self", "row"] ["self", "row"] (defScope s_Cell_init) := ⟨rfl, rfl, rfl, by decide +kernel, rfl, by decide +kernel, by decide +kernel⟩
theorem bi_Cell_init {K : PySem.W.Frag} {f : Addr} {fd : FuncData} (F : FunD K "__init__" "Cell.__init__" (defArgs s_Cell_init) (defBody s_Cell_init) (defScope s_Cell_init) [] [] f fd) : Binds K fd ["self", "row"] [] := F.bindsN fun _ _ _ _ _ _ us hl => match us, hl with | [_, _], _ => rfl
theorem ok_Cell_init (T : Tx K mg) : Gd P w K mg base CX0 1 (He.fAd K ("Cell", some "__init__")) ["self", "row"] [] (spInit1 (C_Cell K) F_Cell) := by
  refine gd_mk T.d_Cell_init sc_Cell_init (fun F => bn (bi_Cell_init F)) (fun vs H Q E h => ?_) (fun cdv A outer s H vs Q E hr h => ?_)
  · obtain ⟨_, _, _, rfl, _⟩ := h
    rfl
  · obtain ⟨p, dx, x, rfl, hp, k⟩ := h
    refine ⟨_, (pss_one (ps_fld (pv 0) (pv 1) rfl)), ?_⟩
    refine ⟨_, rfl, _, rfl, _, _, _, _, rfl, hp, T.c_Cell, T.n_Cell_row, J_Cell_0, ?_⟩
    rw [I_Cell_0]
    exact k
theorem sc_At_init : FnScope ["self", "row", "place"] ["self", "row", "place"] (defScope s_At_init) := ⟨rfl, rfl, rfl, by decide +kernel, rfl, by decide +kernel, by decide +kernel⟩
theorem bi_At_init {K : PySem.W.Frag} {f : Addr} {fd : FuncData} (F : FunD K "__init__" "At.__init__" (defArgs s_At_init) (defBody s_At_init) (defScope s_At_init) [] [] f fd) : Binds K fd ["self", "row", "place"] [] := F.bindsN fun _ _ _ _ _ _ us hl => match us, hl with | [_, _, _], _ => rfl
theorem ok_At_init (T : Tx K mg) : Gd P w K mg base CX0 1 (He.fAd K ("At", some "__init__")) ["self", "row", "place"] [] (spInit2 (C_At K) F_At) := by
  refine gd_mk T.d_At_init sc_At_init (fun F => bn (bi_At_init F)) (fun vs H Q E h => ?_) (fun cdv A outer s H vs Q E hr h => ?_)
  · obtain ⟨_, _, _, _, rfl, _⟩ := h
    rfl
  · obtain ⟨p, dx, x, y, rfl, hp, k⟩ := h
    refine ⟨_, (pss_cons (ps_fld (pv 0) (pv 1) rfl)
  (pss_one (ps_fld (pv 0) (pv 2) rfl))), ?_⟩
    refine ⟨_, rfl, _, rfl, _, _, _, _, rfl, hp, T.c_At, T.n_At_row, J_At_0, ?_⟩
    rw [I_At_0]
    refine ⟨_, rfl, _, rfl, _, _, _, _, rfl, upd_same, T.c_At, T.n_At_place, J_At_1, ?_⟩
    rw [I_At_1, upd_upd]
    exact k
theorem sc_Pair_init : FnScope ["self", "sign", "left", "right"] ["self", "sign", "left", "right"] (defScope s_Pair_init) := ⟨rfl, rfl, rfl, by decide +kernel, rfl, by decide +kernel, by decide +kernel⟩
theorem bi_Pair_init {K : PySem.W.Frag} {f : Addr} {fd : FuncData} (F : FunD K "__init__" "Pair.__init__" (defArgs s_Pair_init) (defBody s_Pair_init) (defScope s_Pair_init) [] [] f fd) : Binds K fd ["self", "sign", "left", "right"] [] := F.bindsN fun _ _ _ _ _ _ us hl => match us, hl with | [_, _, _, _], _ => rfl
theorem ok_Pair_init (T : Tx K mg) : Gd P w K mg base CX0 1 (He.fAd K ("Pair", some "__init__")) ["self", "sign", "left", "right"] [] (spInit3 (C_Pair K) F_Pair) := by
  refine gd_mk T.d_Pair_init sc_Pair_init (fun F => bn (bi_Pair_init F)) (fun vs H Q E h => ?_) (fun cdv A outer s H vs Q E hr h => ?_)
  · obtain ⟨_, _, _, _, _, rfl, _⟩ := h
    rfl
  · obtain ⟨p, dx, x, y, z, rfl, hp, k⟩ := h
    refine ⟨_, (pss_cons (ps_fld (pv 0) (pv 1) rfl)
  (pss_cons (ps_fld (pv 0) (pv 2) rfl)
  (pss_one (ps_fld (pv 0) (pv 3) rfl)))), ?_⟩
    refine ⟨_, rfl, _, rfl, _, _, _, _, rfl, hp, T.c_Pair, T.n_Pair_sign, J_Pair_0, ?_⟩
    rw [I_Pair_0]
    refine ⟨_, rfl, _, rfl, _, _, _, _, rfl, upd_same, T.c_Pair, T.n_Pair_left, J_Pair_1, ?_⟩
    rw [I_Pair_1, upd_upd]
    refine ⟨_, rfl, _, rfl, _, _, _, _, rfl, upd_same, T.c_Pair, T.n_Pair_right, J_Pair_2, ?_⟩
    rw [I_Pair_2, upd_upd]
    exact k
/-! ### need_of -/
def spNeed (K : PySem.W.Frag) (d : Nat) : Sp := fun vs H Q _ => ∃ (a : Addr) (x : V) (f : Fm), vs = [.ref a, x] ∧ FmAt K H f a ∧ f.depth < d ∧ Q (.int f.need) H
theorem max_int (a b : Nat) : (if (b : Int) > (a : Int) then (b : Int) else (a : Int)) = ((max a b : Nat) : Int) := by
  split <;> omega
theorem sc_need_of : FnScope ["form", "functions", "sides", "most", "one"] ["form", "functions"] (defScope s_need_of) := ⟨rfl, rfl, rfl, by decide +kernel, rfl, by decide +kernel, by decide +kernel⟩
theorem bi_need_of {K : PySem.W.Frag} {f : Addr} {fd : FuncData} (F : FunD K "need_of" "need_of" (defArgs s_need_of) (defBody s_need_of) (defScope s_need_of) [] [] f fd) : Binds K fd ["form", "functions"] [] := F.bindsN fun _ _ _ _ _ _ us hl => match us, hl with | [_, _], _ => rfl
theorem ok_need_of (T : Tx K mg) : ∀ d, Gd P w K mg base CX0 d (He.fAd K ("need_of", none)) ["form", "functions"] [] (spNeed K d)
  | 0 => gd0 T.d_need_of (fun F => bn (bi_need_of F)) fun vs H Q E h => by
    obtain ⟨_, _, _, _, _, h, _⟩ := h
    omega
  | d + 1 => by
    obtain ⟨fd_need_of, G_need_of, p_need_of, ds_need_of, v_need_of, b_need_of⟩ := ok_need_of T d
    refine gd_mk T.d_need_of sc_need_of (fun F => bn (bi_need_of F)) (fun vs H Q E h => ?_) (fun cdv A outer s H vs Q E hr h => ?_)
    · obtain ⟨_, _, _, rfl, _⟩ := h
      rfl
    · obtain ⟨a, x, f, rfl, hf, hd, k⟩ := h
      refine ⟨_, (pss_cons (ps_if (pt_val (pe_callB call_isi (by rfl) T.b_isinstance (by decide +kernel) (pa_cons (pv 0) (pa_cons (pe_glob (v := .ref (He.ga K "At")) rfl T.g_At rfl) pa_nil))))
  (pss_one (ps_ret (pe_call G_need_of (hr.mono (by omega)) rfl T.g_need_of p_need_of b_need_of v_need_of pass0 (pa_cons (pe_fld (pv 0) rfl) (pa_cons (pv 1) pa_nil)))))
  pss_nil)
  (pss_cons (ps_if (pt_val (pe_callB call_isi (by rfl) T.b_isinstance (by decide +kernel) (pa_cons (pv 0) (pa_cons (pe_glob (v := .ref (He.ga K "Pair")) rfl T.g_Pair rfl) pa_nil))))
  (pss_one (ps_ret (pe_callB (call_max2 rfl) (by rfl) T.b_max (by decide +kernel) (pa_cons (pe_call G_need_of (hr.mono (by omega)) rfl T.g_need_of p_need_of b_need_of v_need_of pass0 (pa_cons (pe_fld (pv 0) rfl) (pa_cons (pv 1) pa_nil))) (pa_cons (pe_op op_add (pe_call G_need_of (hr.mono (by omega)) rfl T.g_need_of p_need_of b_need_of v_need_of pass0 (pa_cons (pe_fld (pv 0) rfl) (pa_cons (pv 1) pa_nil))) pe_int) pa_nil)))))
  pss_nil)
  (pss_cons (ps_if (pt_val (pe_callB call_isi (by rfl) T.b_isinstance (by decide +kernel) (pa_cons (pv 0) (pa_cons (pe_glob (v := .ref (He.ga K "Choice")) rfl T.g_Choice rfl) pa_nil))))
  (pss_cons ps_never
  (pss_one ps_never))
  pss_nil)
  (pss_cons (ps_if (pt_val (pe_callB call_isi (by rfl) T.b_isinstance (by decide +kernel) (pa_cons (pv 0) (pa_cons (pe_glob (v := .ref (He.ga K "Call")) rfl T.g_Call rfl) pa_nil))))
  (pss_cons ps_never
  (pss_cons ps_never
  (pss_one ps_never)))
  pss_nil)
  (pss_one (ps_ret pe_int)))))), ?_⟩
      cases f with
      | num n =>
        obtain ⟨dx, h⟩ := hf
        refine ⟨_, rfl, _, _, _, _, false, rfl, .own _, isiB T "Number" T.c_Number h, T.kit "Number" "At" false, _, rfl, iteF ?_⟩
        refine ⟨_, rfl, _, _, _, _, false, rfl, .own _, isiB T "Number" T.c_Number h, T.kit "Number" "Pair" false, _, rfl, iteF ?_⟩
        refine ⟨_, rfl, _, _, _, _, false, rfl, .own _, isiB T "Number" T.c_Number h, T.kit "Number" "Choice" false, _, rfl, iteF ?_⟩
        exact ⟨_, rfl, _, _, _, _, false, rfl, .own _, isiB T "Number" T.c_Number h, T.kit "Number" "Call" false, _, rfl, iteF k⟩
      | cell r =>
        obtain ⟨dx, h⟩ := hf
        refine ⟨_, rfl, _, _, _, _, false, rfl, .own _, isiB T "Cell" T.c_Cell h, T.kit "Cell" "At" false, _, rfl, iteF ?_⟩
        refine ⟨_, rfl, _, _, _, _, false, rfl, .own _, isiB T "Cell" T.c_Cell h, T.kit "Cell" "Pair" false, _, rfl, iteF ?_⟩
        refine ⟨_, rfl, _, _, _, _, false, rfl, .own _, isiB T "Cell" T.c_Cell h, T.kit "Cell" "Choice" false, _, rfl, iteF ?_⟩
        exact ⟨_, rfl, _, _, _, _, false, rfl, .own _, isiB T "Cell" T.c_Cell h, T.kit "Cell" "Call" false, _, rfl, iteF k⟩
      | at_ r f =>
        obtain ⟨dx, b, h, h1⟩ := hf
        refine ⟨_, rfl, _, _, _, _, true, rfl, .own _, isiB T "At" T.c_At h, T.kit "At" "At" true, _, rfl, iteT ?_⟩
        have hd' : f.depth + 1 < d + 1 := hd
        exact ⟨_, rfl, _, _, _, _, _, rfl, h, T.c_At, T.n_At_place, L_At_place, _, rfl, b, _, f, rfl, h1, by omega, k⟩
      | pair sg x1 y1 =>
        obtain ⟨dx, b, c, h, h1, h2⟩ := hf
        have hd' : max x1.depth y1.depth + 1 < d + 1 := hd
        refine ⟨_, rfl, _, _, _, _, false, rfl, .own _, isiB T "Pair" T.c_Pair h, T.kit "Pair" "At" false, _, rfl, iteF ?_⟩
        refine ⟨_, rfl, _, _, _, _, true, rfl, .own _, isiB T "Pair" T.c_Pair h, T.kit "Pair" "Pair" true, _, rfl, iteT ?_⟩
        refine ⟨_, rfl, _, _, _, _, _, rfl, h, T.c_Pair, T.n_Pair_left, L_Pair_left, _, rfl, b, _, x1, rfl, h1, by omega, _, rfl, _, _, _, _, _, rfl, h, T.c_Pair, T.n_Pair_right, L_Pair_right, _, rfl, c, _, y1, rfl, h2, by omega, _, _, rfl, rfl, _, _, rfl, ?_⟩
        rw [show ((y1.need : Int) + 1) = ((y1.need + 1 : Nat) : Int) by push_cast; rfl, max_int]
        exact k
end
end Rb
set_option Elab.async false
set_option linter.all false
set_option maxRecDepth 100000
set_option maxHeartbeats 4000000
/-! a hand, and what it lays -/
namespace Rb
open PySem PySem.Spec PyProof.Rows L2
theorem ButL.new {c : Addr} {H : Hp} {p : Addr} {o : HO} (h : H p = none) : ButL c H (upd H p o) := fun a u e _ => by
  rw [upd_ne (ne_of_none e h)]
  exact e
theorem ButL.put {c : Addr} {H : Hp} {o : HO} : ButL c H (upd H c o) := fun a u e n => by
  rw [upd_ne n]
  exact e
def spHandInit (K : PySem.W.Frag) : Sp := fun vs H Q _ => ∃ (p dx : Addr) (x y z : V), vs = [.ref p, x, y, z] ∧ H p = some (.ins (C_Hand K) dx []) ∧
  ∀ c H', H c = none → H' c = some (.lst []) → H' p = some (.ins (C_Hand K) dx (F_Hand x y z (.ref c))) → (∀ a o, H a = some o → a ≠ p → H' a = some o) → Q .non H'
def spNote (K : PySem.W.Frag) : Sp := fun vs H Q _ => ∃ (h ln fns c : Addr) (lens : List Int) (seats : Nat) (xs : List V) (v : V), vs = [.ref h, v] ∧ HandAt K h ln fns c lens seats xs H ∧ xs.length < 1000 ∧ Q .non (upd H c (.lst (xs ++ [v])))
/-- what a hand that lays these steps comes to -/
def LaidF (Q : VK) (c : Addr) (H : Hp) (xs : List V) (st : List (List V)) : Prop := ∀ H' ys, ButL c H H' → H' c = some (.lst (xs ++ ys)) → StepsAt H' ys st → Q .non H'
def spLayF (K : PySem.W.Frag) (d : Nat) : Sp := fun vs H Q _ => ∃ (h ln fns c a : Addr) (lens : List Int) (seats : Nat) (xs : List V) (p sl : Nat) (f : Fm) (sp own : V), vs = [.ref h, .ref a, .int p, .int 0, sp, .int sl, own] ∧ HandAt K h ln fns c lens seats xs H ∧
  FmAt K H f a ∧ f.depth < d ∧ f.rows lens.length ∧ xs.length + (layF lens seats f p sl).length < 1000 ∧ LaidF Q c H xs (layF lens seats f p sl)
def spBeside (K : PySem.W.Frag) (d : Nat) : Sp := fun vs H Q _ => ∃ (h ln fns c a : Addr) (lens : List Int) (seats : Nat) (xs : List V) (p sl : Nat) (f : Fm) (sp own : V), vs = [.ref h, .ref a, .int p, .int 0, .int 0, sp, .int sl, own] ∧ HandAt K h ln fns c lens seats xs H ∧
  FmAt K H f a ∧ f.depth < d ∧ f.rows lens.length ∧ xs.length + (beside lens seats f p sl).length < 1000 ∧ LaidF Q c H xs (beside lens seats f p sl)
def spLeaf (K : PySem.W.Frag) : Sp := fun vs H Q _ => ∃ (h ln fns c a : Addr) (lens : List Int) (seats : Nat) (xs : List V) (p sl : Nat) (f : Fm) (own : V), vs = [.ref h, .ref a, .int p, .int 0, own] ∧ HandAt K h ln fns c lens seats xs H ∧
  FmAt K H f a ∧ f.depth = 0 ∧ f.rows lens.length ∧ xs.length < 999 ∧ LaidF Q c H xs (layF lens seats f p sl)
/-- one more step noted -/
theorem LaidF.note {Q : VK} {K : PySem.W.Frag} {h ln fns c : Addr} {lens : List Int} {seats : Nat} {xs : List V} {H : Hp} {st : List V} {p : Addr} {rest : List (List V)} (L : LaidF Q c H xs (st :: rest)) (A : HandAt K h ln fns c lens seats xs H) (hp : H p = none)
    : LaidF Q c (upd (upd H p (.tup st)) c (.lst (xs ++ [.ref p]))) (xs ++ [.ref p]) rest := fun H' ys f hc s => by
  have np : p ≠ c := fun e => by
    rw [e, A.co] at hp
    cases hp
  refine L H' (.ref p :: ys) (((ButL.new hp).trans ButL.put).trans f) (by rw [hc, List.append_assoc]; rfl) (.cons ⟨p, rfl, f _ _ ?_ np⟩ s)
  rw [upd_ne np, upd_same]
theorem LaidF.end_ {Q : VK} {c : Addr} {H : Hp} {xs : List V} (L : LaidF Q c H xs []) (h : H c = some (.lst xs)) : Q .non H := L H [] (ButL.refl c H) (by rw [List.append_nil]; exact h) .nil
/-- the rest, after a part was laid -/
theorem LaidF.cut {Q : VK} {c : Addr} {H H1 : Hp} {xs ys : List V} {s1 s2 : List (List V)} (L : LaidF Q c H xs (s1 ++ s2)) (hc0 : H c = some (.lst xs)) (f : ButL c H H1) (hc : H1 c = some (.lst (xs ++ ys))) (s : StepsAt H1 ys s1) : LaidF Q c H1 (xs ++ ys) s2 := fun H' zs f2 hc2 t =>
  L H' (ys ++ zs) (f.trans f2) (by rw [hc2, List.append_assoc]) ((s.mono hc f2).append t)
section
variable {P : Program} {w : World} {K : PySem.W.Frag} {mg : Str → Option Value} {base : Heap}
theorem HandAt.new {K : PySem.W.Frag} {h ln fns c : Addr} {lens : List Int} {seats : Nat} {xs : List V} {H : Hp} {p : Addr} {o : HO} (A : HandAt K h ln fns c lens seats xs H) (hp : H p = none) : HandAt K h ln fns c lens seats xs (upd H p o) := A.mono (ButL.new hp) ((upd_ne (ne_of_none A.co hp)).trans A.co)
theorem HandAt.put {K : PySem.W.Frag} {h ln fns c : Addr} {lens : List Int} {seats : Nat} {xs ys : List V} {H : Hp} (A : HandAt K h ln fns c lens seats xs H) : HandAt K h ln fns c lens seats ys (upd H c (.lst ys)) := A.mono ButL.put upd_same
theorem sc_Hand_init : FnScope ["self", "lengths", "functions", "seats"] ["self", "lengths", "functions", "seats"] (defScope s_Hand_init) := ⟨rfl, rfl, rfl, by decide +kernel, rfl, by decide +kernel, by decide +kernel⟩
theorem bi_Hand_init {K : PySem.W.Frag} {f : Addr} {fd : FuncData} (F : FunD K "__init__" "Hand.__init__" (defArgs s_Hand_init) (defBody s_Hand_init) (defScope s_Hand_init) [] [] f fd) : Binds K fd ["self", "lengths", "functions", "seats"] [] := F.bindsN fun _ _ _ _ _ _ us hl => match us, hl with | [_, _, _, _], _ => rfl
theorem ok_Hand_init (T : Tx K mg) : Gd P w K mg base CX0 1 (He.fAd K ("Hand", some "__init__")) ["self", "lengths", "functions", "seats"] [] (spHandInit K) := by
  refine gd_mk T.d_Hand_init sc_Hand_init (fun F => bn (bi_Hand_init F)) (fun vs H Q E h => ?_) (fun cdv A outer s H vs Q E hr h => ?_)
  · obtain ⟨_, _, _, _, _, rfl, _⟩ := h
    rfl
  · obtain ⟨p, dx, x, y, z, rfl, hp, k⟩ := h
    refine ⟨_, (pss_cons (ps_fld (pv 0) (pv 1) rfl)
  (pss_cons (ps_fld (pv 0) (pv 2) rfl)
  (pss_cons (ps_fld (pv 0) (pv 3) rfl)
  (pss_one (ps_fld (pv 0) (pe_lst pa_nil) rfl))))), ?_⟩
    refine ⟨_, rfl, _, rfl, _, _, _, _, rfl, hp, T.c_Hand, T.n_Hand_lengths, J_Hand_0, ?_⟩
    rw [I_Hand_0]
    refine ⟨_, rfl, _, rfl, _, _, _, _, rfl, upd_same, T.c_Hand, T.n_Hand_functions, J_Hand_1, ?_⟩
    rw [I_Hand_1, upd_upd]
    refine ⟨_, rfl, _, rfl, _, _, _, _, rfl, upd_same, T.c_Hand, T.n_Hand_seats, J_Hand_2, ?_⟩
    rw [I_Hand_2, upd_upd]
    refine ⟨(by show 0 ≤ sizeLine; decide), fun q hq => ?_⟩
    have npq : p ≠ q := fun e => by
      rw [← e, upd_same] at hq
      cases hq
    have hq0 : H q = none := by rw [upd_ne npq.symm] at hq; exact hq
    refine ⟨_, rfl, _, _, _, _, rfl, (upd_ne npq).trans upd_same, T.c_Hand, T.n_Hand_code, J_Hand_3, ?_⟩
    rw [I_Hand_3]
    refine k q _ hq0 ((upd_ne npq.symm).trans upd_same) upd_same fun a o ha hne => ?_
    rw [upd_ne hne, upd_ne (ne_of_none ha hq0), upd_ne hne]
    exact ha
theorem sc_Hand_note : FnScope ["self", "step"] ["self", "step"] (defScope s_Hand_note) := ⟨rfl, rfl, rfl, by decide +kernel, rfl, by decide +kernel, by decide +kernel⟩
theorem bi_Hand_note {K : PySem.W.Frag} {f : Addr} {fd : FuncData} (F : FunD K "note" "Hand.note" (defArgs s_Hand_note) (defBody s_Hand_note) (defScope s_Hand_note) [] [] f fd) : Binds K fd ["self", "step"] [] := F.bindsN fun _ _ _ _ _ _ us hl => match us, hl with | [_, _], _ => rfl
theorem ok_Hand_note (T : Tx K mg) : Gd P w K mg base CX0 1 (He.fAd K ("Hand", some "note")) ["self", "step"] [] (spNote K) := by
  refine gd_mk T.d_Hand_note sc_Hand_note (fun F => bn (bi_Hand_note F)) (fun vs H Q E h => ?_) (fun cdv A outer s H vs Q E hr h => ?_)
  · obtain ⟨_, _, _, _, _, _, _, _, rfl, _⟩ := h
    rfl
  · obtain ⟨h, ln, fns, c, lens, seats, xs, v, rfl, A1, hl, k⟩ := h
    refine ⟨_, (pss_one (ps_expr (pe_bm PySem.F.plainAttrs_list PySem.F.slot_list_append PySem.F.type_list_append mt_append (pe_fld (pv 0) rfl) (pa_cons (pv 1) pa_nil)))), ?_⟩
    obtain ⟨dx, hh⟩ := A1.ho
    refine ⟨_, rfl, _, _, _, _, _, rfl, hh, T.c_Hand, T.n_Hand_code, L_Hand_code, .inl ⟨rfl, _, .inl (.inl A1.co)⟩, _, rfl, c, xs, v, rfl, rfl, A1.co, ?_, k⟩
    exact Nat.lt_of_lt_of_le hl (by rw [sizeLine_eq]; decide)
theorem sc_lay_leaf : FnScope ["hand", "form", "seat", "mask", "own"] ["hand", "form", "seat", "mask", "own"] (defScope s_lay_leaf) := ⟨rfl, rfl, rfl, by decide +kernel, rfl, by decide +kernel, by decide +kernel⟩
theorem bi_lay_leaf {K : PySem.W.Frag} {f : Addr} {fd : FuncData} (F : FunD K "lay_leaf" "lay_leaf" (defArgs s_lay_leaf) (defBody s_lay_leaf) (defScope s_lay_leaf) [] [] f fd) : Binds K fd ["hand", "form", "seat", "mask", "own"] [] := F.bindsN fun _ _ _ _ _ _ us hl => match us, hl with | [_, _, _, _, _], _ => rfl
theorem ok_lay_leaf (T : Tx K mg) : Gd P w K mg base CX0 2 (He.fAd K ("lay_leaf", none)) ["hand", "form", "seat", "mask", "own"] [] (spLeaf K) := by
  obtain ⟨fd_Hand_note, G_Hand_note, p_Hand_note, ds_Hand_note, v_Hand_note, b_Hand_note⟩ := ok_Hand_note (P := P) (w := w) (base := base) T
  refine gd_mk T.d_lay_leaf sc_lay_leaf (fun F => bn (bi_lay_leaf F)) (fun vs H Q E h => ?_) (fun cdv A outer s H vs Q E hr h => ?_)
  · obtain ⟨_, _, _, _, _, _, _, _, _, _, _, _, rfl, _⟩ := h
    rfl
  · obtain ⟨h, ln, fns, c, a, lens, seats, xs, p, sl, f, own, rfl, A1, hf, hd, hrw, hl, k⟩ := h
    refine ⟨_, (pss_one (ps_if (pt_val (pe_callB call_isi (by rfl) T.b_isinstance (by decide +kernel) (pa_cons (pv 1) (pa_cons (pe_glob (v := .ref (He.ga K "Number")) rfl T.g_Number rfl) pa_nil))))
  (pss_one (ps_expr (pe_meth (pv 0) T.c_Hand T.m_Hand_note G_Hand_note (hr.mono (by decide)) b_Hand_note v_Hand_note pass0 (pa_cons (pe_tup (pa_cons pe_str (pa_cons (pv 2) (pa_cons (pe_fld (pv 1) rfl) (pa_cons (pv 3) pa_nil))))) pa_nil))))
  (pss_one (ps_if (pt_val (pe_callB call_isi (by rfl) T.b_isinstance (by decide +kernel) (pa_cons (pv 1) (pa_cons (pe_glob (v := .ref (He.ga K "Here")) rfl T.g_Here rfl) pa_nil))))
  (pss_one ps_never)
  (pss_one (ps_if (pt_val (pe_callB call_isi (by rfl) T.b_isinstance (by decide +kernel) (pa_cons (pv 1) (pa_cons (pe_glob (v := .ref (He.ga K "Cell")) rfl T.g_Cell rfl) pa_nil))))
  (pss_one (ps_if (pt_cmpR op_eq (pe_ix ix_list (pe_fld (pv 0) rfl) (pe_fld (pv 1) rfl) (fun _ _ => rfl)) pe_int (nomark _))
  (pss_one (ps_expr (pe_meth (pv 0) T.c_Hand T.m_Hand_note G_Hand_note (hr.mono (by decide)) b_Hand_note v_Hand_note pass0 (pa_cons (pe_tup (pa_cons pe_str (pa_cons (pv 2) (pa_cons (pe_fld (pv 1) rfl) (pa_cons (pv 3) pa_nil))))) pa_nil))))
  (pss_one (ps_expr (pe_meth (pv 0) T.c_Hand T.m_Hand_note G_Hand_note (hr.mono (by decide)) b_Hand_note v_Hand_note pass0 (pa_cons (pe_tup (pa_cons pe_str (pa_cons (pv 2) (pa_cons (pe_fld (pv 1) rfl) (pa_cons (pv 3) pa_nil))))) pa_nil))))))
  (pss_one (ps_if (pt_val (pe_callB call_isi (by rfl) T.b_isinstance (by decide +kernel) (pa_cons (pv 1) (pa_cons (pe_glob (v := .ref (He.ga K "Shifted")) rfl T.g_Shifted rfl) pa_nil))))
  (pss_one ps_never)
  (pss_one ps_never))))))))), ?_⟩
    obtain ⟨hdx, hh⟩ := A1.ho
    cases f with
    | num n =>
      obtain ⟨dx, hn⟩ := hf
      refine ⟨_, rfl, _, _, _, _, true, rfl, .own _, isiB T "Number" T.c_Number hn, T.kit "Number" "Number" true, _, rfl, iteT ?_⟩
      refine ⟨_, rfl, _, _, _, rfl, hh, rfl, _, rfl, _, rfl, _, _, _, _, _, rfl, hn, T.c_Number, T.n_Number_number, L_Number_number, _, rfl, (by show 4 ≤ sizeLine; decide), fun q hq => ?_⟩
      refine ⟨h, ln, fns, c, lens, seats, xs, .ref q, rfl, A1.new hq, by omega, ?_⟩
      exact (LaidF.note k A1 hq).end_ upd_same
    | cell r =>
      obtain ⟨dx, hn⟩ := hf
      refine ⟨_, rfl, _, _, _, _, false, rfl, .own _, isiB T "Cell" T.c_Cell hn, T.kit "Cell" "Number" false, _, rfl, iteF ?_⟩
      refine ⟨_, rfl, _, _, _, _, false, rfl, .own _, isiB T "Cell" T.c_Cell hn, T.kit "Cell" "Here" false, _, rfl, iteF ?_⟩
      refine ⟨_, rfl, _, _, _, _, true, rfl, .own _, isiB T "Cell" T.c_Cell hn, T.kit "Cell" "Cell" true, _, rfl, iteT ?_⟩
      have hr' : r < lens.length := hrw
      refine ⟨_, rfl, _, _, _, _, _, rfl, hh, T.c_Hand, T.n_Hand_lengths, L_Hand_lengths, _, rfl, _, _, _, _, _, rfl, hn, T.c_Cell, T.n_Cell_row, L_Cell_row, ln, _, _, .int lens[r], rfl, rfl, seql A1.lno, ?_, rfl, _, rfl, ?_⟩
      · exact atI_nat (by rw [List.getElem?_map, List.getElem?_eq_getElem hr']; rfl)
      · have k' : LaidF Q c H xs (if lens[r] = 1 then [[.str "spread", .int p, .int r, .int 0]] else [[.str "load", .int p, .int r, .int 0]]) := by
          have k2 : LaidF Q c H xs (if (lens[r]?).getD 0 = 1 then [[.str "spread", .int p, .int r, .int 0]] else [[.str "load", .int p, .int r, .int 0]]) := k
          rw [List.getElem?_eq_getElem hr'] at k2
          exact k2
        by_cases e1 : lens[r] = 1
        · rw [if_pos e1] at k'
          rw [decide_eq_true (show V.int lens[r] = V.int 1 by rw [e1])]
          refine iteT ⟨_, rfl, _, _, _, rfl, hh, rfl, _, rfl, _, rfl, _, _, _, _, _, rfl, hn, T.c_Cell, T.n_Cell_row, L_Cell_row, _, rfl, (by show 4 ≤ sizeLine; decide), fun q hq => ?_⟩
          refine ⟨h, ln, fns, c, lens, seats, xs, .ref q, rfl, A1.new hq, by omega, ?_⟩
          exact (LaidF.note k' A1 hq).end_ upd_same
        · rw [if_neg e1] at k'
          rw [decide_eq_false (show ¬ V.int lens[r] = V.int 1 from fun z => e1 (V.int.inj z))]
          refine iteF ⟨_, rfl, _, _, _, rfl, hh, rfl, _, rfl, _, rfl, _, _, _, _, _, rfl, hn, T.c_Cell, T.n_Cell_row, L_Cell_row, _, rfl, (by show 4 ≤ sizeLine; decide), fun q hq => ?_⟩
          refine ⟨h, ln, fns, c, lens, seats, xs, .ref q, rfl, A1.new hq, by omega, ?_⟩
          exact (LaidF.note k' A1 hq).end_ upd_same
    | at_ r f => cases hd
    | pair s x y => cases hd
theorem beside_eq (lens : List Int) (seats : Nat) (sg : Str) (x y : Fm) (p sl : Nat) : layF lens seats (.pair sg x y) p sl = layF lens seats x p sl ++ (beside lens seats y p sl ++ [[.str "op", .int p, .str sg, .int p, .int (p + 1 : Nat), .int 0]]) := rfl
theorem sc_lay_beside : FnScope ["hand", "form", "seat", "first", "mask", "spare", "slot", "own"] ["hand", "form", "seat", "first", "mask", "spare", "slot", "own"] (defScope s_lay_beside) := ⟨rfl, rfl, rfl, by decide +kernel, rfl, by decide +kernel, by decide +kernel⟩
theorem bi_lay_beside {K : PySem.W.Frag} {f : Addr} {fd : FuncData} (F : FunD K "lay_beside" "lay_beside" (defArgs s_lay_beside) (defBody s_lay_beside) (defScope s_lay_beside) [] [] f fd) : Binds K fd ["hand", "form", "seat", "first", "mask", "spare", "slot", "own"] [] := F.bindsN fun _ _ _ _ _ _ us hl => match us, hl with | [_, _, _, _, _, _, _, _], _ => rfl
theorem ok_lay_beside (T : Tx K mg) (d : Nat) (g : Gd P w K mg base CX0 (10 * d) (He.fAd K ("lay_form", none)) ["hand", "form", "seat", "mask", "spare", "slot", "own"] [] (spLayF K d)) : Gd P w K mg base CX0 (10 * d + 5) (He.fAd K ("lay_beside", none)) ["hand", "form", "seat", "first", "mask", "spare", "slot", "own"] [] (spBeside K d) := by
  obtain ⟨fd_Hand_note, G_Hand_note, p_Hand_note, ds_Hand_note, v_Hand_note, b_Hand_note⟩ := ok_Hand_note (P := P) (w := w) (base := base) T
  obtain ⟨fd_need_of, G_need_of, p_need_of, ds_need_of, v_need_of, b_need_of⟩ := ok_need_of (P := P) (w := w) (base := base) T d
  obtain ⟨fd_lay_form, G_lay_form, p_lay_form, ds_lay_form, v_lay_form, b_lay_form⟩ := g
  refine gd_mk (k := 10 * d + 4) T.d_lay_beside sc_lay_beside (fun F => bn (bi_lay_beside F)) (fun vs H Q E h => ?_) (fun cdv A outer s H vs Q E hr h => ?_)
  · obtain ⟨_, _, _, _, _, _, _, _, _, _, _, _, _, rfl, _⟩ := h
    rfl
  · obtain ⟨h, ln, fns, c, a, lens, seats, xs, p, sl, f, sp, own, rfl, A1, hf, hd, hrw, hl, k⟩ := h
    refine ⟨_, (pss_one (ps_if (pt_cmpR op_le (pe_op op_add (pe_op op_add (pv 2) pe_int) (pe_call G_need_of (hr.mono (by omega)) rfl T.g_need_of p_need_of b_need_of v_need_of pass0 (pa_cons (pv 1) (pa_cons (pe_fld (pv 0) rfl) pa_nil)))) (pe_fld (pv 0) rfl) (nomark _))
  (pss_one (ps_expr (pe_call G_lay_form (hr.mono (by omega)) rfl T.g_lay_form p_lay_form b_lay_form v_lay_form pass0 (pa_cons (pv 0) (pa_cons (pv 1) (pa_cons (pe_op op_add (pv 2) pe_int) (pa_cons (pv 4) (pa_cons (pv 5) (pa_cons (pv 6) (pa_cons (pv 7) pa_nil))))))))))
  (pss_cons (ps_expr (pe_meth (pv 0) T.c_Hand T.m_Hand_note G_Hand_note (hr.mono (by omega)) b_Hand_note v_Hand_note pass0 (pa_cons (pe_tup (pa_cons pe_str (pa_cons (pv 6) (pa_cons (pv 2) (pa_cons (pv 3) pa_nil))))) pa_nil)))
  (pss_cons (ps_expr (pe_call G_lay_form (hr.mono (by omega)) rfl T.g_lay_form p_lay_form b_lay_form v_lay_form pass0 (pa_cons (pv 0) (pa_cons (pv 1) (pa_cons (pv 2) (pa_cons (pv 4) (pa_cons (pv 5) (pa_cons (pe_op op_add (pv 6) pe_int) (pa_cons (pv 7) pa_nil)))))))))
  (pss_cons (ps_expr (pe_meth (pv 0) T.c_Hand T.m_Hand_note G_Hand_note (hr.mono (by omega)) b_Hand_note v_Hand_note pass0 (pa_cons (pe_tup (pa_cons pe_str (pa_cons (pe_op op_add (pv 2) pe_int) (pa_cons (pv 2) (pa_cons (pv 4) pa_nil))))) pa_nil)))
  (pss_one (ps_expr (pe_meth (pv 0) T.c_Hand T.m_Hand_note G_Hand_note (hr.mono (by omega)) b_Hand_note v_Hand_note pass0 (pa_cons (pe_tup (pa_cons pe_str (pa_cons (pv 2) (pa_cons (pv 6) (pa_cons (pv 3) pa_nil))))) pa_nil))))))))), ?_⟩
    obtain ⟨hdx, hh⟩ := A1.ho
    refine ⟨_, rfl, _, _, rfl, rfl, _, rfl, _, rfl, _, _, _, _, _, rfl, hh, T.c_Hand, T.n_Hand_functions, L_Hand_functions, a, _, f, rfl, hf, hd, _, _, rfl, rfl, _, rfl, _, _, _, _, _, rfl, hh, T.c_Hand, T.n_Hand_seats, L_Hand_seats, _, _, rfl, rfl, _, rfl, ?_⟩
    unfold beside at k hl
    by_cases e1 : p + 1 + f.need ≤ seats
    · rw [if_pos e1] at k hl
      rw [decide_eq_true (show (p : Int) + 1 + (f.need : Int) ≤ (seats : Int) by omega)]
      refine iteT ⟨_, rfl, _, rfl, _, rfl, _, _, rfl, rfl, _, rfl, _, rfl, _, rfl, _, rfl, h, ln, fns, c, a, lens, seats, xs, p + 1, sl, f, sp, own, rfl, A1, hf, hd, hrw, hl, k⟩
    · rw [if_neg e1] at k hl
      rw [decide_eq_false (show ¬ (p : Int) + 1 + (f.need : Int) ≤ (seats : Int) by omega)]
      refine iteF ⟨_, rfl, _, _, _, rfl, hh, rfl, _, rfl, _, rfl, _, rfl, (by show 4 ≤ sizeLine; decide), fun q hq => ?_⟩
      rw [List.length_cons, List.length_append] at hl
      refine ⟨h, ln, fns, c, lens, seats, xs, .ref q, rfl, A1.new hq, by omega, ?_⟩
      have k1 := LaidF.note k A1 hq
      have A2 := (A1.new (o := .tup [.str "save", .int sl, .int p, .int 0]) hq).put (ys := xs ++ [.ref q])
      obtain ⟨hdx2, hh2⟩ := A2.ho
      refine ⟨_, rfl, _, rfl, _, rfl, _, rfl, _, rfl, _, rfl, _, _, rfl, rfl, _, rfl, h, ln, fns, c, a, lens, seats, xs ++ [.ref q], p, sl + 1, f, sp, own, rfl, A2, (hf.mono A1.co (ButL.new hq)).mono (A1.new hq).co ButL.put, hd, hrw, ?_, fun H3 ys f3 hc3 s3 => ?_⟩
      · rw [List.length_append]
        simp only [List.length_cons, List.length_nil]
        omega
      have k3 := LaidF.cut k1 upd_same f3 hc3 s3
      have A3 := A2.mono f3 hc3
      have ly := s3.length
      obtain ⟨hdx3, hh3⟩ := A3.ho
      simp only [List.length_cons, List.length_nil] at hl
      refine ⟨_, rfl, _, _, _, rfl, hh3, rfl, _, rfl, _, _, rfl, rfl, _, rfl, _, rfl, (by show 4 ≤ sizeLine; decide), fun q4 hq4 => ?_⟩
      refine ⟨h, ln, fns, c, lens, seats, _, .ref q4, rfl, A3.new hq4, ?_, ?_⟩
      · rw [List.length_append, List.length_append]
        simp only [List.length_cons, List.length_nil]
        omega
      have k4 := LaidF.note k3 A3 hq4
      have A4 := (A3.new (o := .tup [.str "copy", .int (p + 1 : Nat), .int p, .int 0]) hq4).put (ys := xs ++ [.ref q] ++ ys ++ [.ref q4])
      obtain ⟨hdx4, hh4⟩ := A4.ho
      refine ⟨_, rfl, _, _, _, rfl, hh4, rfl, _, rfl, _, rfl, _, rfl, (by show 4 ≤ sizeLine; decide), fun q5 hq5 => ?_⟩
      refine ⟨h, ln, fns, c, lens, seats, _, .ref q5, rfl, A4.new hq5, ?_, ?_⟩
      · rw [List.length_append, List.length_append, List.length_append]
        simp only [List.length_cons, List.length_nil]
        omega
      exact (LaidF.note k4 A4 hq5).end_ upd_same
theorem sc_lay_form : FnScope ["hand", "form", "seat", "mask", "spare", "slot", "own"] ["hand", "form", "seat", "mask", "spare", "slot", "own"] (defScope s_lay_form) := ⟨rfl, rfl, rfl, by decide +kernel, rfl, by decide +kernel, by decide +kernel⟩
theorem bi_lay_form {K : PySem.W.Frag} {f : Addr} {fd : FuncData} (F : FunD K "lay_form" "lay_form" (defArgs s_lay_form) (defBody s_lay_form) (defScope s_lay_form) [] [] f fd) : Binds K fd ["hand", "form", "seat", "mask", "spare", "slot", "own"] [] := F.bindsN fun _ _ _ _ _ _ us hl => match us, hl with | [_, _, _, _, _, _, _], _ => rfl
theorem ok_lay_form (T : Tx K mg) : ∀ d, Gd P w K mg base CX0 (10 * d) (He.fAd K ("lay_form", none)) ["hand", "form", "seat", "mask", "spare", "slot", "own"] [] (spLayF K d)
  | 0 => gd0 T.d_lay_form (fun F => bn (bi_lay_form F)) fun vs H Q E h => by
    obtain ⟨_, _, _, _, _, _, _, _, _, _, _, _, _, _, _, _, h, _⟩ := h
    omega
  | d + 1 => by
    have g := ok_lay_form T d
    obtain ⟨fd_Hand_note, G_Hand_note, p_Hand_note, ds_Hand_note, v_Hand_note, b_Hand_note⟩ := ok_Hand_note (P := P) (w := w) (base := base) T
    obtain ⟨fd_lay_leaf, G_lay_leaf, p_lay_leaf, ds_lay_leaf, v_lay_leaf, b_lay_leaf⟩ := ok_lay_leaf (P := P) (w := w) (base := base) T
    obtain ⟨fd_lay_beside, G_lay_beside, p_lay_beside, ds_lay_beside, v_lay_beside, b_lay_beside⟩ := ok_lay_beside T d g
    obtain ⟨fd_lay_form, G_lay_form, p_lay_form, ds_lay_form, v_lay_form, b_lay_form⟩ := g
    refine gd_mk (k := 10 * d + 9) T.d_lay_form sc_lay_form (fun F => bn (bi_lay_form F)) (fun vs H Q E h => ?_) (fun cdv A outer s H vs Q E hr h => ?_)
    · obtain ⟨_, _, _, _, _, _, _, _, _, _, _, _, _, rfl, _⟩ := h
      rfl
    · obtain ⟨h, ln, fns, c, a, lens, seats, xs, p, sl, f, sp, own, rfl, A1, hf, hd, hrw, hl, k⟩ := h
      refine ⟨_, (pss_one (ps_if (pt_val (pe_callB call_isi (by rfl) T.b_isinstance (by decide +kernel) (pa_cons (pv 1) (pa_cons (pe_glob (v := .ref (He.ga K "At")) rfl T.g_At rfl) pa_nil))))
  (pss_cons (ps_expr (pe_call G_lay_form (hr.mono (by omega)) rfl T.g_lay_form p_lay_form b_lay_form v_lay_form pass0 (pa_cons (pv 0) (pa_cons (pe_fld (pv 1) rfl) (pa_cons (pv 2) (pa_cons (pv 3) (pa_cons (pv 4) (pa_cons (pv 5) (pa_cons (pv 6) pa_nil)))))))))
  (pss_one (ps_expr (pe_meth (pv 0) T.c_Hand T.m_Hand_note G_Hand_note (hr.mono (by omega)) b_Hand_note v_Hand_note pass0 (pa_cons (pe_tup (pa_cons pe_str (pa_cons (pv 2) (pa_cons (pv 2) (pa_cons (pe_fld (pv 1) rfl) (pa_cons (pv 3) pa_nil)))))) pa_nil)))))
  (pss_one (ps_if (pt_val (pe_callB call_isi (by rfl) T.b_isinstance (by decide +kernel) (pa_cons (pv 1) (pa_cons (pe_glob (v := .ref (He.ga K "Pair")) rfl T.g_Pair rfl) pa_nil))))
  (pss_cons (ps_expr (pe_call G_lay_form (hr.mono (by omega)) rfl T.g_lay_form p_lay_form b_lay_form v_lay_form pass0 (pa_cons (pv 0) (pa_cons (pe_fld (pv 1) rfl) (pa_cons (pv 2) (pa_cons (pv 3) (pa_cons (pv 4) (pa_cons (pv 5) (pa_cons (pv 6) pa_nil)))))))))
  (pss_cons (ps_expr (pe_call G_lay_beside (hr.mono (by omega)) rfl T.g_lay_beside p_lay_beside b_lay_beside v_lay_beside pass0 (pa_cons (pv 0) (pa_cons (pe_fld (pv 1) rfl) (pa_cons (pv 2) (pa_cons (pv 3) (pa_cons (pv 3) (pa_cons (pv 4) (pa_cons (pv 5) (pa_cons (pv 6) pa_nil))))))))))
  (pss_one (ps_expr (pe_meth (pv 0) T.c_Hand T.m_Hand_note G_Hand_note (hr.mono (by omega)) b_Hand_note v_Hand_note pass0 (pa_cons (pe_tup (pa_cons pe_str (pa_cons (pv 2) (pa_cons (pe_fld (pv 1) rfl) (pa_cons (pv 2) (pa_cons (pe_op op_add (pv 2) pe_int) (pa_cons (pv 3) pa_nil))))))) pa_nil))))))
  (pss_one (ps_if (pt_val (pe_callB call_isi (by rfl) T.b_isinstance (by decide +kernel) (pa_cons (pv 1) (pa_cons (pe_glob (v := .ref (He.ga K "Choice")) rfl T.g_Choice rfl) pa_nil))))
  (pss_one ps_never)
  (pss_one (ps_if (pt_val (pe_callB call_isi (by rfl) T.b_isinstance (by decide +kernel) (pa_cons (pv 1) (pa_cons (pe_glob (v := .ref (He.ga K "Call")) rfl T.g_Call rfl) pa_nil))))
  (pss_one ps_never)
  (pss_one (ps_expr (pe_call G_lay_leaf (hr.mono (by omega)) rfl T.g_lay_leaf p_lay_leaf b_lay_leaf v_lay_leaf pass0 (pa_cons (pv 0) (pa_cons (pv 1) (pa_cons (pv 2) (pa_cons (pv 3) (pa_cons (pv 6) pa_nil)))))))))))))))), ?_⟩
      obtain ⟨hdx, hh⟩ := A1.ho
      cases f with
      | num n =>
        obtain ⟨dx, hn⟩ := id hf
        refine ⟨_, rfl, _, _, _, _, false, rfl, .own _, isiB T "Number" T.c_Number hn, T.kit "Number" "At" false, _, rfl, iteF ⟨_, rfl, _, _, _, _, false, rfl, .own _, isiB T "Number" T.c_Number hn, T.kit "Number" "Pair" false, _, rfl, iteF ⟨_, rfl, _, _, _, _, false, rfl, .own _, isiB T "Number" T.c_Number hn, T.kit "Number" "Choice" false, _, rfl, iteF ⟨_, rfl, _, _, _, _, false, rfl, .own _, isiB T "Number" T.c_Number hn, T.kit "Number" "Call" false, _, rfl, iteF ?_⟩⟩⟩⟩
        have hl' : xs.length + 1 < 1000 := hl
        exact ⟨_, rfl, _, rfl, _, rfl, _, rfl, _, rfl, h, ln, fns, c, a, lens, seats, xs, p, sl, .num n, own, rfl, A1, hf, rfl, hrw, by omega, k⟩
      | cell r =>
        obtain ⟨dx, hn⟩ := id hf
        refine ⟨_, rfl, _, _, _, _, false, rfl, .own _, isiB T "Cell" T.c_Cell hn, T.kit "Cell" "At" false, _, rfl, iteF ⟨_, rfl, _, _, _, _, false, rfl, .own _, isiB T "Cell" T.c_Cell hn, T.kit "Cell" "Pair" false, _, rfl, iteF ⟨_, rfl, _, _, _, _, false, rfl, .own _, isiB T "Cell" T.c_Cell hn, T.kit "Cell" "Choice" false, _, rfl, iteF ⟨_, rfl, _, _, _, _, false, rfl, .own _, isiB T "Cell" T.c_Cell hn, T.kit "Cell" "Call" false, _, rfl, iteF ?_⟩⟩⟩⟩
        have hl' : xs.length < 999 := by
          have h1 : (layF lens seats (.cell r) p sl).length = 1 := by
            unfold layF
            split <;> rfl
          omega
        exact ⟨_, rfl, _, rfl, _, rfl, _, rfl, _, rfl, h, ln, fns, c, a, lens, seats, xs, p, sl, .cell r, own, rfl, A1, hf, rfl, hrw, hl', k⟩
      | at_ r f =>
        obtain ⟨dx, b, hn, h1⟩ := hf
        have hd' : f.depth + 1 < d + 1 := hd
        have hl' : xs.length + ((layF lens seats f p sl ++ [[.str "gather", .int p, .int p, .int r, .int 0]]) : List (List V)).length < 1000 := hl
        rw [List.length_append] at hl'
        simp only [List.length_cons, List.length_nil] at hl'
        refine ⟨_, rfl, _, _, _, _, true, rfl, .own _, isiB T "At" T.c_At hn, T.kit "At" "At" true, _, rfl, iteT ?_⟩
        refine ⟨_, rfl, _, rfl, _, _, _, _, _, rfl, hn, T.c_At, T.n_At_place, L_At_place, _, rfl, _, rfl, _, rfl, _, rfl, _, rfl, h, ln, fns, c, b, lens, seats, xs, p, sl, f, sp, own, rfl, A1, h1, by omega, hrw, by omega, fun H3 ys f3 hc3 s3 => ?_⟩
        have k3 := LaidF.cut (s2 := [[.str "gather", .int p, .int p, .int r, .int 0]]) k A1.co f3 hc3 s3
        have A3 := A1.mono f3 hc3
        have ly := s3.length
        obtain ⟨hdx3, hh3⟩ := A3.ho
        have hn3 := f3 _ _ hn (ne_of hn A1.co (by intro z; cases z))
        refine ⟨_, rfl, _, _, _, rfl, hh3, rfl, _, rfl, _, rfl, _, rfl, _, _, _, _, _, rfl, hn3, T.c_At, T.n_At_row, L_At_row, _, rfl, (by show 5 ≤ sizeLine; decide), fun q4 hq4 => ?_⟩
        refine ⟨h, ln, fns, c, lens, seats, _, .ref q4, rfl, A3.new hq4, ?_, ?_⟩
        · rw [List.length_append]
          omega
        exact (LaidF.note k3 A3 hq4).end_ upd_same
      | pair sg x1 y1 =>
        obtain ⟨dx, b, b2, hn, h1, h2⟩ := hf
        have hd' : max x1.depth y1.depth + 1 < d + 1 := hd
        have hl' : xs.length + ((layF lens seats x1 p sl ++ (beside lens seats y1 p sl ++ [[.str "op", .int p, .str sg, .int p, .int (p + 1 : Nat), .int 0]])) : List (List V)).length < 1000 := hl
        rw [List.length_append, List.length_append] at hl'
        simp only [List.length_cons, List.length_nil] at hl'
        have k0 : LaidF Q c H xs (layF lens seats x1 p sl ++ (beside lens seats y1 p sl ++ [[.str "op", .int p, .str sg, .int p, .int (p + 1 : Nat), .int 0]])) := k
        refine ⟨_, rfl, _, _, _, _, false, rfl, .own _, isiB T "Pair" T.c_Pair hn, T.kit "Pair" "At" false, _, rfl, iteF ⟨_, rfl, _, _, _, _, true, rfl, .own _, isiB T "Pair" T.c_Pair hn, T.kit "Pair" "Pair" true, _, rfl, iteT ?_⟩⟩
        refine ⟨_, rfl, _, rfl, _, _, _, _, _, rfl, hn, T.c_Pair, T.n_Pair_left, L_Pair_left, _, rfl, _, rfl, _, rfl, _, rfl, _, rfl, h, ln, fns, c, b, lens, seats, xs, p, sl, x1, sp, own, rfl, A1, h1, by omega, hrw.1, by omega, fun H3 ys f3 hc3 s3 => ?_⟩
        have k3 := LaidF.cut k0 A1.co f3 hc3 s3
        have A3 := A1.mono f3 hc3
        have ly := s3.length
        have hn3 := f3 _ _ hn (ne_of hn A1.co (by intro z; cases z))
        refine ⟨_, rfl, _, rfl, _, _, _, _, _, rfl, hn3, T.c_Pair, T.n_Pair_right, L_Pair_right, _, rfl, _, rfl, _, rfl, _, rfl, _, rfl, _, rfl, h, ln, fns, c, b2, lens, seats, _, p, sl, y1, sp, own, rfl, A3, h2.mono A1.co f3, by omega, hrw.2, ?_, fun H4 zs f4 hc4 s4 => ?_⟩
        · rw [List.length_append]
          omega
        have k4 := LaidF.cut k3 A3.co f4 hc4 s4
        have A4 := A3.mono f4 hc4
        have lz := s4.length
        obtain ⟨hdx4, hh4⟩ := A4.ho
        have hn4 := f4 _ _ hn3 (ne_of hn3 A3.co (by intro z; cases z))
        refine ⟨_, rfl, _, _, _, rfl, hh4, rfl, _, rfl, _, rfl, _, _, _, _, _, rfl, hn4, T.c_Pair, T.n_Pair_sign, L_Pair_sign, _, rfl, _, rfl, _, _, rfl, rfl, _, rfl, (by show 6 ≤ sizeLine; decide), fun q5 hq5 => ?_⟩
        refine ⟨h, ln, fns, c, lens, seats, _, .ref q5, rfl, A4.new hq5, ?_, ?_⟩
        · rw [List.length_append, List.length_append]
          omega
        exact (LaidF.note k4 A4 hq5).end_ upd_same
end
end Rb
set_option Elab.async false
set_option linter.all false
set_option maxRecDepth 100000
set_option maxHeartbeats 4000000
/-! programs made into code -/
namespace Rb
open PySem PySem.Spec PyProof.Rows L2
def spStepInit (K : PySem.W.Frag) : Sp := fun vs H Q _ => ∃ (p dx : Addr) (x : V), vs = [.ref p, x] ∧ H p = some (.ins (C_Let K) dx []) ∧ Q .non (upd H p (.ins (C_Let K) dx [("target", x)]))
def spProgInit (K : PySem.W.Frag) : Sp := fun vs H Q _ => ∃ (p dx a b c : Addr) (xs ys zs : List V), vs = [.ref p, .ref a, .ref b, .ref c] ∧ H p = some (.ins (C_Program K) dx []) ∧ H a = some (.lst xs) ∧ H b = some (.lst ys) ∧ H c = some (.lst zs) ∧
  ∀ q1 q2 q3 H', H' p = some (.ins (C_Program K) dx (F_Program (.ref q1) (.ref q2) (.ref q3))) → H' q1 = some (.lst xs) → H' q2 = some (.lst ys) → H' q3 = some (.lst zs) → (∀ a o, H a = some o → a ≠ p → H' a = some o) → Q .non H'
/-- the one step of our programs -/
structure LetAt (K : PySem.W.Frag) (lt fm : Addr) (H : Hp) : Prop where
  ex : ∃ dx, H lt = some (.ins (C_Let K) dx (F_Let (.int 0) (.ref fm) .non))
structure ProgAt (K : PySem.W.Frag) (pg lt fm ln fns sts : Addr) (lens : List Int) (f : Fm) (H : Hp) : Prop where
  pe : ∃ dx, H pg = some (.ins (C_Program K) dx (F_Program (.ref ln) (.ref fns) (.ref sts)))
  le : LetAt K lt fm H
  fe : FmAt K H f fm
  lne : H ln = some (.lst (lens.map V.int))
  ste : H sts = some (.lst [.ref lt])
theorem LetAt.same {K : PySem.W.Frag} {lt fm : Addr} {H H' : Hp} (L : LetAt K lt fm H) (e : Same H H') : LetAt K lt fm H' := by
  obtain ⟨dx, h⟩ := L.ex
  exact ⟨dx, e _ _ h⟩
theorem ProgAt.same {K : PySem.W.Frag} {pg lt fm ln fns sts : Addr} {lens : List Int} {f : Fm} {H H' : Hp} (L : ProgAt K pg lt fm ln fns sts lens f H) (e : Same H H') : ProgAt K pg lt fm ln fns sts lens f H' := by
  obtain ⟨dx, h⟩ := L.pe
  exact ⟨⟨dx, e _ _ h⟩, L.le.same e, L.fe.same e, e _ _ L.lne, e _ _ L.ste⟩
def grpOf (n : Nat) : Nat := if n ≤ 2 then 4 else if n ≤ 4 then 2 else 1
def sizeOf' (f : Fm) (grp : Nat) : Nat := if grp = 0 then grpOf f.need else grp
def codeOf (lens : List Int) (f : Fm) (size : Nat) : List (List V) := [.str "begin", .int ((lens[0]?).getD 0), .int size] :: (layF lens (8 / size) f 0 0 ++ [[.str "trim"], [.str "store", .int 0, .int 0, .int 0], [.str "stop", .int 0], [.str "next"]])
def spMany (K : PySem.W.Frag) : Sp := fun vs H Q _ => ∃ (lt fm ln : Addr) (lens : List Int), vs = [.ref lt, .ref ln] ∧ LetAt K lt fm H ∧ H ln = some (.lst (lens.map V.int)) ∧ 0 < lens.length ∧ Q (.int ((lens[0]?).getD 0)) H
def spCount (K : PySem.W.Frag) : Sp := fun vs H Q _ => ∃ (a lt fm : Addr), vs = [.ref a] ∧ H a = some (.lst [.ref lt]) ∧ LetAt K lt fm H ∧ Q (.int 1) H
def spGroup (K : PySem.W.Frag) (d : Nat) : Sp := fun vs H Q _ => ∃ (lt fm : Addr) (x : V) (f : Fm), vs = [.ref lt, x] ∧ LetAt K lt fm H ∧ FmAt K H f fm ∧ f.depth < d ∧ Q (.int (grpOf f.need)) H
def spEffectH (K : PySem.W.Frag) : Sp := fun vs H Q _ => ∃ (h ln fns c lt fm : Addr) (lens : List Int) (seats : Nat) (xs : List V), vs = [.ref h, .ref lt, .int 0] ∧ HandAt K h ln fns c lens seats xs H ∧ LetAt K lt fm H ∧ xs.length + 2 < 1000 ∧ LaidF Q c H xs [[.str "trim"], [.str "store", .int 0, .int 0, .int 0]]
def OutCode (Q : VK) (H : Hp) (st : List (List V)) : Prop := ∀ H' a refs, H a = none → Same H H' → H' a = some (.lst refs) → StepsAt H' refs st → Q (.ref a) H'
def okG (g : Nat) : Prop := g = 0 ∨ g = 1 ∨ g = 2 ∨ g = 4
def spStepCode (K : PySem.W.Frag) (d : Nat) : Sp := fun vs H Q _ => ∃ (pg lt fm ln fns sts : Addr) (lens : List Int) (f : Fm) (grp : Nat), vs = [.ref pg, .ref lt, .int 0, .int grp] ∧ ProgAt K pg lt fm ln fns sts lens f H ∧ f.depth < d ∧ f.rows lens.length ∧ 0 < lens.length ∧ okG grp ∧
  (layF lens (8 / sizeOf' f grp) f 0 0).length < 900 ∧ OutCode Q H (codeOf lens f (sizeOf' f grp))
def spStepsCode (K : PySem.W.Frag) (d : Nat) : Sp := fun vs H Q _ => ∃ (pg lt fm ln fns sts : Addr) (lens : List Int) (f : Fm) (grp : Nat), vs = [.ref pg, .ref sts, .int 0, .int grp] ∧ ProgAt K pg lt fm ln fns sts lens f H ∧ f.depth < d ∧ f.rows lens.length ∧ 0 < lens.length ∧ okG grp ∧
  (layF lens (8 / sizeOf' f grp) f 0 0).length < 900 ∧ OutCode Q H (codeOf lens f (sizeOf' f grp))
def spMade (K : PySem.W.Frag) (d : Nat) : Sp := fun vs H Q _ => ∃ (pg lt fm ln fns sts : Addr) (lens : List Int) (f : Fm) (grp : Nat), vs = [.ref pg, .int grp] ∧ ProgAt K pg lt fm ln fns sts lens f H ∧ f.depth < d ∧ f.rows lens.length ∧ 0 < lens.length ∧ okG grp ∧
  (layF lens (8 / sizeOf' f grp) f 0 0).length < 900 ∧ OutCode Q H (codeOf lens f (sizeOf' f grp))
theorem same_of {c : Addr} {H H' : Hp} (f : ButL c H H') (h : H c = none) : Same H H' := fun a o e => f a o e (ne_of_none e h)
section
variable {P : Program} {w : World} {K : PySem.W.Frag} {mg : Str → Option Value} {base : Heap}
theorem sc_Step_init : FnScope ["self", "target"] ["self", "target"] (defScope s_Step_init) := ⟨rfl, rfl, rfl, by decide +kernel, rfl, by decide +kernel, by decide +kernel⟩
theorem bi_Step_init {K : PySem.W.Frag} {f : Addr} {fd : FuncData} (F : FunD K "__init__" "Step.__init__" (defArgs s_Step_init) (defBody s_Step_init) (defScope s_Step_init) [] [] f fd) : Binds K fd ["self", "target"] [] := F.bindsN fun _ _ _ _ _ _ us hl => match us, hl with | [_, _], _ => rfl
theorem ok_Step_init (T : Tx K mg) : Gd P w K mg base CX0 1 (He.fAd K ("Step", some "__init__")) ["self", "target"] [] (spStepInit K) := by
  refine gd_mk T.d_Step_init sc_Step_init (fun F => bn (bi_Step_init F)) (fun vs H Q E h => ?_) (fun cdv A outer s H vs Q E hr h => ?_)
  · obtain ⟨_, _, _, rfl, _⟩ := h
    rfl
  · obtain ⟨p, dx, x, rfl, hp, k⟩ := h
    refine ⟨_, (pss_one (ps_fld (pv 0) (pv 1) rfl)), ?_⟩
    refine ⟨_, rfl, _, rfl, _, _, _, _, rfl, hp, T.c_Let, T.n_Let_target, J_Let_0, ?_⟩
    rw [I_Let_0]
    exact k
theorem sc_Let_init : FnScope ["self", "target", "value", "test"] ["self", "target", "value", "test"] (defScope s_Let_init) := ⟨rfl, rfl, rfl, by decide +kernel, rfl, by decide +kernel, by decide +kernel⟩
theorem bi_Let_init {K : PySem.W.Frag} {f : Addr} {fd : FuncData} (F : FunD K "__init__" "Let.__init__" (defArgs s_Let_init) (defBody s_Let_init) (defScope s_Let_init) [V.non] [] f fd) : ∃ ds, Vals [V.non] ds ∧ Binds K fd ["self", "target", "value", "test"] ds :=
  F.binds1 3 0 (by intro z; cases z) rfl fun _ _ _ _ _ _ _ us its h1 h2 => match us, its, h1, h2 with
    | [_, _, _], [_], _, _ => ⟨_, rfl, rfl⟩
theorem ok_Let_init (T : Tx K mg) : Gd P w K mg base CX0 2 (He.fAd K ("Let", some "__init__")) ["self", "target", "value", "test"] [.non] (spInit3 (C_Let K) F_Let) := by
  obtain ⟨fd_Step_init, G_Step_init, p_Step_init, ds_Step_init, v_Step_init, b_Step_init⟩ := ok_Step_init (P := P) (w := w) (base := base) T
  refine gd_mk T.d_Let_init sc_Let_init (fun F => bi_Let_init F) (fun vs H Q E h => ?_) (fun cdv A outer s H vs Q E hr h => ?_)
  · obtain ⟨_, _, _, _, _, rfl, _⟩ := h
    rfl
  · obtain ⟨p, dx, x, y, z, rfl, hp, k⟩ := h
    refine ⟨_, (pss_cons (ps_expr (pe_cfn (pe_glob (v := .ref (He.ga K "Step")) rfl T.g_Step rfl) T.step_init.1 T.step_init.2 G_Step_init (hr.mono (by decide)) p_Step_init b_Step_init v_Step_init pass0 (pa_cons (pv 0) (pa_cons (pv 1) pa_nil))))
  (pss_cons (ps_fld (pv 0) (pv 2) rfl)
  (pss_one (ps_fld (pv 0) (pv 3) rfl)))), ?_⟩
    refine ⟨rfl, _, rfl, _, rfl, p, dx, x, rfl, hp, ?_⟩
    refine ⟨_, rfl, _, rfl, _, _, _, _, rfl, upd_same, T.c_Let, T.n_Let_value, J_Let_1, ?_⟩
    rw [I_Let_1, upd_upd]
    refine ⟨_, rfl, _, rfl, _, _, _, _, rfl, upd_same, T.c_Let, T.n_Let_test, J_Let_2, ?_⟩
    rw [I_Let_2, upd_upd]
    exact k
theorem sc_Program_init : FnScope ["self", "lengths", "functions", "steps"] ["self", "lengths", "functions", "steps"] (defScope s_Program_init) := ⟨rfl, rfl, rfl, by decide +kernel, rfl, by decide +kernel, by decide +kernel⟩
theorem bi_Program_init {K : PySem.W.Frag} {f : Addr} {fd : FuncData} (F : FunD K "__init__" "Program.__init__" (defArgs s_Program_init) (defBody s_Program_init) (defScope s_Program_init) [] [] f fd) : Binds K fd ["self", "lengths", "functions", "steps"] [] := F.bindsN fun _ _ _ _ _ _ us hl => match us, hl with | [_, _, _, _], _ => rfl
theorem ok_Program_init (T : Tx K mg) : Gd P w K mg base CX0 1 (He.fAd K ("Program", some "__init__")) ["self", "lengths", "functions", "steps"] [] (spProgInit K) := by
  refine gd_mk T.d_Program_init sc_Program_init (fun F => bn (bi_Program_init F)) (fun vs H Q E h => ?_) (fun cdv A outer s H vs Q E hr h => ?_)
  · obtain ⟨_, _, _, _, _, _, _, _, rfl, _⟩ := h
    rfl
  · obtain ⟨p, dx, a, b, c, xs, ys, zs, rfl, hp, ha, hb, hc, k⟩ := h
    refine ⟨_, (pss_cons (ps_fld (pv 0) (pe_callTy call_list_of (by rfl) T.b_list (by decide +kernel) (pa_cons (pv 1) pa_nil)) rfl)
  (pss_cons (ps_fld (pv 0) (pe_callTy call_list_of (by rfl) T.b_list (by decide +kernel) (pa_cons (pv 2) pa_nil)) rfl)
  (pss_one (ps_fld (pv 0) (pe_callTy call_list_of (by rfl) T.b_list (by decide +kernel) (pa_cons (pv 3) pa_nil)) rfl)))), ?_⟩
    refine ⟨_, rfl, a, xs, rfl, .inl (seql ha), fun q1 hq1 => ?_⟩
    have n1 : p ≠ q1 := ne_of_none hp hq1
    refine ⟨_, rfl, _, _, _, _, rfl, (upd_ne n1).trans hp, T.c_Program, T.n_Program_lengths, J_Program_0, ?_⟩
    rw [I_Program_0]
    have nap : ∀ {z : Addr} {l : List V}, H z = some (.lst l) → z ≠ p := fun hz => ne_of hz hp (by intro z; cases z)
    have f1 : ButL p H (upd (upd H q1 (.lst xs)) p (.ins (C_Program K) dx [("lengths", .ref q1)])) := (ButL.new hq1).trans ButL.put
    refine ⟨_, rfl, b, ys, rfl, .inl (seql (f1 _ _ hb (nap hb))), fun q2 hq2 => ?_⟩
    have n2 : p ≠ q2 := fun e => by
      rw [← e, upd_same] at hq2
      cases hq2
    refine ⟨_, rfl, _, _, _, _, rfl, (upd_ne n2).trans upd_same, T.c_Program, T.n_Program_functions, J_Program_1, ?_⟩
    rw [I_Program_1]
    have f2 := f1.trans ((ButL.new (o := .lst ys) hq2).trans (ButL.put (o := .ins (C_Program K) dx [("lengths", .ref q1), ("functions", .ref q2)])))
    refine ⟨_, rfl, c, zs, rfl, .inl (seql (f2 _ _ hc (nap hc))), fun q3 hq3 => ?_⟩
    have n3 : p ≠ q3 := fun e => by
      rw [← e, upd_same] at hq3
      cases hq3
    refine ⟨_, rfl, _, _, _, _, rfl, (upd_ne n3).trans upd_same, T.c_Program, T.n_Program_steps, J_Program_2, ?_⟩
    rw [I_Program_2]
    have f3 := (ButL.new (c := p) (o := .lst zs) hq3).trans (ButL.put (o := .ins (C_Program K) dx (F_Program (.ref q1) (.ref q2) (.ref q3))))
    have e2 := ((ButL.put (c := p) (o := .ins (C_Program K) dx [("lengths", .ref q1), ("functions", .ref q2)])).trans f3) q2 _ upd_same n2.symm
    have g1 := (ButL.put (c := p) (H := upd H q1 (.lst xs)) (o := .ins (C_Program K) dx [("lengths", .ref q1)])) q1 _ upd_same n1.symm
    have e1 := (((ButL.new (c := p) (o := .lst ys) hq2).trans (ButL.put (o := .ins (C_Program K) dx [("lengths", .ref q1), ("functions", .ref q2)]))).trans f3) q1 _ g1 n1.symm
    exact k q1 q2 q3 _ upd_same e1 e2 ((upd_ne n3.symm).trans upd_same) (fun a o ha hn => (f2.trans f3) a o ha hn)
theorem sc_Step_many_of : FnScope ["self", "lengths"] ["self", "lengths"] (defScope s_Step_many_of) := ⟨rfl, rfl, rfl, by decide +kernel, rfl, by decide +kernel, by decide +kernel⟩
theorem bi_Step_many_of {K : PySem.W.Frag} {f : Addr} {fd : FuncData} (F : FunD K "many_of" "Step.many_of" (defArgs s_Step_many_of) (defBody s_Step_many_of) (defScope s_Step_many_of) [] [] f fd) : Binds K fd ["self", "lengths"] [] := F.bindsN fun _ _ _ _ _ _ us hl => match us, hl with | [_, _], _ => rfl
theorem ok_Let_many_of (T : Tx K mg) : Gd P w K mg base CX0 1 (He.fAd K ("Let", some "many_of")) ["self", "lengths"] [] (spMany K) := by
  refine gd_mk T.d_Let_many_of sc_Step_many_of (fun F => bn (bi_Step_many_of F)) (fun vs H Q E h => ?_) (fun cdv A outer s H vs Q E hr h => ?_)
  · obtain ⟨_, _, _, _, rfl, _⟩ := h
    rfl
  · obtain ⟨lt, fm, ln, lens, rfl, L, hl, h0, k⟩ := h
    obtain ⟨dx, hL⟩ := L.ex
    refine ⟨_, (pss_one (ps_ret (pe_ix ix_list (pv 1) (pe_fld (pv 0) rfl) (fun _ _ => rfl)))), ?_⟩
    refine ⟨_, rfl, _, rfl, _, _, _, _, _, rfl, hL, T.c_Let, T.n_Let_target, L_Let_target, ln, _, _, _, rfl, rfl, seql hl, ?_, k⟩
    refine atI_nat (j := 0) ?_
    rw [List.getElem?_map, List.getElem?_eq_getElem h0]
    rfl
theorem sc_count_of : FnScope ["steps", "many", "step"] ["steps"] (defScope s_count_of) := ⟨rfl, rfl, rfl, by decide +kernel, rfl, by decide +kernel, by decide +kernel⟩
theorem bi_count_of {K : PySem.W.Frag} {f : Addr} {fd : FuncData} (F : FunD K "count_of" "count_of" (defArgs s_count_of) (defBody s_count_of) (defScope s_count_of) [] [] f fd) : Binds K fd ["steps"] [] := F.bindsN fun _ _ _ _ _ _ us hl => match us, hl with | [_], _ => rfl
theorem ok_count_of (T : Tx K mg) : Gd P w K mg base CX0 1 (He.fAd K ("count_of", none)) ["steps"] [] (spCount K) := by
  refine gd_mk T.d_count_of sc_count_of (fun F => bn (bi_count_of F)) (fun vs H Q E h => ?_) (fun cdv A outer s H vs Q E hr h => ?_)
  · obtain ⟨_, _, _, rfl, _⟩ := h
    rfl
  · obtain ⟨a, lt, fm, rfl, ha, L, k⟩ := h
    obtain ⟨dx, hL⟩ := L.ex
    refine ⟨_, (pss_cons (ps_set (i := 1) sc_count_of.nd rfl (Or.inl rfl) pe_int)
  (pss_cons (ps_for PassesOwn.never rfl (pi_list (pv 0)) (pg_name (i := 2) sc_count_of.nd rfl (Or.inl rfl))
  (pss_cons (ps_aug (i := 1) sc_count_of.nd rfl (Or.inl rfl) pe_int ip_add)
  (pss_one (ps_if (pt_val (pe_callB call_isi (by rfl) T.b_isinstance (by decide +kernel) (pa_cons (pv 2) (pa_cons (pe_glob (v := .ref (He.ga K "Till")) rfl T.g_Till rfl) pa_nil))))
  (pss_one ps_never)
  pss_nil))))
  (pss_one (ps_ret (pv 1))))), ?_⟩
    refine ⟨_, rfl, a, rfl, ⟨_, seql ha⟩, for_list (K := K) (a := a) (xs := [V.ref lt]) (fun i σ H2 => ∃ v1 : Option V, H2 = H ∧ σ = [some (.ref a), some (.int i), v1]) ?_ ?_ ?_ ?_⟩
    · exact ⟨_, rfl, rfl⟩
    · rintro i σ H2 hi ⟨v1, rfl, rfl⟩
      exact seql ha
    · rintro i x σ H2 hx ⟨v1, rfl, rfl⟩
      have e : x = .ref lt := by
        cases i with
        | zero => exact (Option.some.inj hx).symm
        | succ i => cases hx
      subst e
      refine ⟨_, rfl, _, _, rfl, rfl, _, rfl, _, _, _, _, false, rfl, .own _, isiB T "Let" T.c_Let hL, T.kit "Let" "Till" false, _, rfl, iteF ⟨_, rfl, by push_cast; rfl⟩⟩
    · rintro σ H2 ⟨v1, rfl, rfl⟩
      exact ⟨_, rfl, k⟩
theorem sc_group_for : FnScope ["step", "functions", "need"] ["step", "functions"] (defScope s_group_for) := ⟨rfl, rfl, rfl, by decide +kernel, rfl, by decide +kernel, by decide +kernel⟩
theorem bi_group_for {K : PySem.W.Frag} {f : Addr} {fd : FuncData} (F : FunD K "group_for" "group_for" (defArgs s_group_for) (defBody s_group_for) (defScope s_group_for) [] [] f fd) : Binds K fd ["step", "functions"] [] := F.bindsN fun _ _ _ _ _ _ us hl => match us, hl with | [_, _], _ => rfl
theorem ok_group_for (T : Tx K mg) (d : Nat) (hd : d ≤ 8) : Gd P w K mg base CX0 9 (He.fAd K ("group_for", none)) ["step", "functions"] [] (spGroup K d) := by
  obtain ⟨fd_need_of, G_need_of, p_need_of, ds_need_of, v_need_of, b_need_of⟩ := ok_need_of (P := P) (w := w) (base := base) T d
  refine gd_mk T.d_group_for sc_group_for (fun F => bn (bi_group_for F)) (fun vs H Q E h => ?_) (fun cdv A outer s H vs Q E hr h => ?_)
  · obtain ⟨_, _, _, _, rfl, _⟩ := h
    rfl
  · obtain ⟨lt, fm, x, f, rfl, L, hf, hdp, k⟩ := h
    obtain ⟨dx, hL⟩ := L.ex
    refine ⟨_, (pss_cons (ps_set (i := 2) sc_group_for.nd rfl (Or.inl rfl) (pe_call G_need_of (hr.mono (by omega)) rfl T.g_need_of p_need_of b_need_of v_need_of pass0 (pa_cons (pe_fld (pv 0) rfl) (pa_cons (pv 1) pa_nil))))
  (pss_cons (ps_if (pt_val (pe_callB call_isi (by rfl) T.b_isinstance (by decide +kernel) (pa_cons (pv 0) (pa_cons (pe_glob (v := .ref (He.ga K "Put")) rfl T.g_Put rfl) pa_nil))))
  (pss_one ps_never)
  pss_nil)
  (pss_cons (ps_if (pt_cmpR op_notN (pe_fld (pv 0) rfl) pe_non (nomark _))
  (pss_one ps_never)
  pss_nil)
  (pss_cons (ps_if (pt_cmpR op_le (pv 2) pe_int (nomark _))
  (pss_one (ps_ret pe_int))
  pss_nil)
  (pss_cons (ps_if (pt_cmpR op_le (pv 2) pe_int (nomark _))
  (pss_one (ps_ret pe_int))
  pss_nil)
  (pss_one (ps_ret pe_int))))))), ?_⟩
    refine ⟨_, rfl, _, _, _, _, _, rfl, hL, T.c_Let, T.n_Let_value, L_Let_value, _, rfl, fm, _, f, rfl, hf, hdp, ?_⟩
    refine ⟨_, rfl, _, _, _, _, false, rfl, .own _, isiB T "Let" T.c_Let hL, T.kit "Let" "Put" false, _, rfl, iteF ?_⟩
    refine ⟨_, rfl, _, _, _, _, _, rfl, hL, T.c_Let, T.n_Let_test, L_Let_test, rfl, _, rfl, iteF ?_⟩
    unfold grpOf at k
    refine ⟨_, rfl, _, _, rfl, rfl, _, rfl, ?_⟩
    by_cases e2 : f.need ≤ 2
    · rw [if_pos e2] at k
      rw [decide_eq_true (show (f.need : Int) ≤ 2 by omega)]
      exact iteT k
    rw [if_neg e2] at k
    rw [decide_eq_false (show ¬ (f.need : Int) ≤ 2 by omega)]
    refine iteF ⟨_, rfl, _, _, rfl, rfl, _, rfl, ?_⟩
    by_cases e4 : f.need ≤ 4
    · rw [if_pos e4] at k
      rw [decide_eq_true (show (f.need : Int) ≤ 4 by omega)]
      exact iteT k
    rw [if_neg e4] at k
    rw [decide_eq_false (show ¬ (f.need : Int) ≤ 4 by omega)]
    exact iteF k
theorem sc_lay_effect : FnScope ["hand", "step", "mask"] ["hand", "step", "mask"] (defScope s_lay_effect) := ⟨rfl, rfl, rfl, by decide +kernel, rfl, by decide +kernel, by decide +kernel⟩
theorem bi_lay_effect {K : PySem.W.Frag} {f : Addr} {fd : FuncData} (F : FunD K "lay_effect" "lay_effect" (defArgs s_lay_effect) (defBody s_lay_effect) (defScope s_lay_effect) [] [] f fd) : Binds K fd ["hand", "step", "mask"] [] := F.bindsN fun _ _ _ _ _ _ us hl => match us, hl with | [_, _, _], _ => rfl
theorem ok_lay_effect (T : Tx K mg) : Gd P w K mg base CX0 2 (He.fAd K ("lay_effect", none)) ["hand", "step", "mask"] [] (spEffectH K) := by
  obtain ⟨fd_Hand_note, G_Hand_note, p_Hand_note, ds_Hand_note, v_Hand_note, b_Hand_note⟩ := ok_Hand_note (P := P) (w := w) (base := base) T
  refine gd_mk T.d_lay_effect sc_lay_effect (fun F => bn (bi_lay_effect F)) (fun vs H Q E h => ?_) (fun cdv A outer s H vs Q E hr h => ?_)
  · obtain ⟨_, _, _, _, _, _, _, _, _, rfl, _⟩ := h
    rfl
  · obtain ⟨h, ln, fns, c, lt, fm, lens, seats, xs, rfl, A1, L, hl, k⟩ := h
    obtain ⟨dx, hL⟩ := L.ex
    obtain ⟨hdx, hh⟩ := A1.ho
    refine ⟨_, (pss_cons (ps_if (pt_val (pe_callB call_isi (by rfl) T.b_isinstance (by decide +kernel) (pa_cons (pv 1) (pa_cons (pe_glob (v := .ref (He.ga K "Put")) rfl T.g_Put rfl) pa_nil))))
  (pss_cons ps_never
  (pss_one ps_never))
  pss_nil)
  (pss_cons (ps_expr (pe_meth (pv 0) T.c_Hand T.m_Hand_note G_Hand_note (hr.mono (by decide)) b_Hand_note v_Hand_note pass0 (pa_cons (pe_tup (pa_cons pe_str pa_nil)) pa_nil)))
  (pss_one (ps_if (pt_val (pe_callB call_isi (by rfl) T.b_isinstance (by decide +kernel) (pa_cons (pv 1) (pa_cons (pe_glob (v := .ref (He.ga K "Put")) rfl T.g_Put rfl) pa_nil))))
  (pss_one ps_never)
  (pss_one (ps_if (pt_val (pe_callB call_isi (by rfl) T.b_isinstance (by decide +kernel) (pa_cons (pv 1) (pa_cons (pe_glob (v := .ref (He.ga K "Fold")) rfl T.g_Fold rfl) pa_nil))))
  (pss_one ps_never)
  (pss_one (ps_if (pt_val (pe_callB call_isi (by rfl) T.b_isinstance (by decide +kernel) (pa_cons (pv 1) (pa_cons (pe_glob (v := .ref (He.ga K "Running")) rfl T.g_Running rfl) pa_nil))))
  (pss_one ps_never)
  (pss_one (ps_expr (pe_meth (pv 0) T.c_Hand T.m_Hand_note G_Hand_note (hr.mono (by decide)) b_Hand_note v_Hand_note pass0 (pa_cons (pe_tup (pa_cons pe_str (pa_cons (pe_fld (pv 1) rfl) (pa_cons pe_int (pa_cons (pv 2) pa_nil))))) pa_nil)))))))))))), ?_⟩
    refine ⟨_, rfl, _, _, _, _, false, rfl, .own _, isiB T "Let" T.c_Let hL, T.kit "Let" "Put" false, _, rfl, iteF ?_⟩
    refine ⟨_, rfl, _, _, _, rfl, hh, rfl, (by show 1 ≤ sizeLine; decide), fun q hq => ?_⟩
    refine ⟨h, ln, fns, c, lens, seats, xs, .ref q, rfl, A1.new hq, by omega, ?_⟩
    have k1 := LaidF.note k A1 hq
    have A2 := (A1.new (o := .tup [.str "trim"]) hq).put (ys := xs ++ [.ref q])
    obtain ⟨hdx2, hh2⟩ := A2.ho
    have hL2 := ((ButL.new (c := c) (o := .tup [.str "trim"]) hq).trans (ButL.put (o := .lst (xs ++ [.ref q])))) _ _ hL (ne_of hL A1.co (by intro z; cases z))
    refine ⟨_, rfl, _, _, _, _, false, rfl, .own _, isiB T "Let" T.c_Let hL2, T.kit "Let" "Put" false, _, rfl, iteF ?_⟩
    refine ⟨_, rfl, _, _, _, _, false, rfl, .own _, isiB T "Let" T.c_Let hL2, T.kit "Let" "Fold" false, _, rfl, iteF ?_⟩
    refine ⟨_, rfl, _, _, _, _, false, rfl, .own _, isiB T "Let" T.c_Let hL2, T.kit "Let" "Running" false, _, rfl, iteF ?_⟩
    refine ⟨_, rfl, _, _, _, rfl, hh2, rfl, _, rfl, _, _, _, _, _, rfl, hL2, T.c_Let, T.n_Let_target, L_Let_target, _, rfl, (by show 4 ≤ sizeLine; decide), fun q2 hq2 => ?_⟩
    refine ⟨h, ln, fns, c, lens, seats, _, .ref q2, rfl, A2.new hq2, ?_, ?_⟩
    · rw [List.length_append]
      simp only [List.length_cons, List.length_nil]
      omega
    exact (LaidF.note k1 A2 hq2).end_ upd_same
theorem sc_step_code : FnScope ["program", "step", "number", "group", "size", "hand", "mask"] ["program", "step", "number", "group"] (defScope s_step_code) := ⟨rfl, rfl, rfl, by decide +kernel, rfl, by decide +kernel, by decide +kernel⟩
theorem bi_step_code {K : PySem.W.Frag} {f : Addr} {fd : FuncData} (F : FunD K "step_code" "step_code" (defArgs s_step_code) (defBody s_step_code) (defScope s_step_code) [] [] f fd) : Binds K fd ["program", "step", "number", "group"] [] := F.bindsN fun _ _ _ _ _ _ us hl => match us, hl with | [_, _, _, _], _ => rfl
theorem ok_step_code (T : Tx K mg) (d : Nat) (hd : d ≤ 4) : Gd P w K mg base CX0 (10 * d + 10) (He.fAd K ("step_code", none)) ["program", "step", "number", "group"] [] (spStepCode K d) := by
  obtain ⟨fd_Hand_note, G_Hand_note, p_Hand_note, ds_Hand_note, v_Hand_note, b_Hand_note⟩ := ok_Hand_note (P := P) (w := w) (base := base) T
  obtain ⟨fd_Hand_init, G_Hand_init, p_Hand_init, ds_Hand_init, v_Hand_init, b_Hand_init⟩ := ok_Hand_init (P := P) (w := w) (base := base) T
  obtain ⟨fd_Let_many_of, G_Let_many_of, p_Let_many_of, ds_Let_many_of, v_Let_many_of, b_Let_many_of⟩ := ok_Let_many_of (P := P) (w := w) (base := base) T
  obtain ⟨fd_group_for, G_group_for, p_group_for, ds_group_for, v_group_for, b_group_for⟩ := ok_group_for (P := P) (w := w) (base := base) T d (by omega)
  obtain ⟨fd_lay_effect, G_lay_effect, p_lay_effect, ds_lay_effect, v_lay_effect, b_lay_effect⟩ := ok_lay_effect (P := P) (w := w) (base := base) T
  obtain ⟨fd_lay_form, G_lay_form, p_lay_form, ds_lay_form, v_lay_form, b_lay_form⟩ := ok_lay_form (P := P) (w := w) (base := base) T d
  refine gd_mk (k := 10 * d + 9) T.d_step_code sc_step_code (fun F => bn (bi_step_code F)) (fun vs H Q E h => ?_) (fun cdv A outer s H vs Q E hr h => ?_)
  · obtain ⟨_, _, _, _, _, _, _, _, _, rfl, _⟩ := h
    rfl
  · obtain ⟨pg, lt, fm, ln, fns, sts, lens, f, grp, rfl, Pg, hdp, hrw, hl0, hg, hlen, k⟩ := h
    obtain ⟨pdx, hpg⟩ := Pg.pe
    obtain ⟨ldx, hlt⟩ := Pg.le.ex
    refine ⟨_, (pss_cons (ps_set (i := 4) sc_step_code.nd rfl (Or.inl rfl) (pv 3))
  (C8.pss_cut (ps_if (pt_cmpR op_eq (pv 3) pe_int (nomark _))
  (pss_one (ps_set (i := 4) sc_step_code.nd rfl (Or.inl rfl) (pe_call G_group_for (hr.mono (by omega)) rfl T.g_group_for p_group_for b_group_for v_group_for pass0 (pa_cons (pv 1) (pa_cons (pe_fld (pv 0) rfl) pa_nil)))))
  pss_nil)
  (pss_cons (ps_set (i := 5) sc_step_code.nd rfl (Or.inl rfl) (pe_make T.k_Hand G_Hand_init (hr.mono (by omega)) rfl T.g_Hand b_Hand_init v_Hand_init pass0 (pa_cons (pe_fld (pv 0) rfl) (pa_cons (pe_fld (pv 0) rfl) (pa_cons (pe_op op_fdivN pe_int (pv 4)) pa_nil)))))
  (pss_cons (ps_expr (pe_meth (pv 5) T.c_Hand T.m_Hand_note G_Hand_note (hr.mono (by omega)) b_Hand_note v_Hand_note pass0 (pa_cons (pe_tup (pa_cons pe_str (pa_cons (pe_meth (pv 1) T.c_Let T.m_Let_many_of G_Let_many_of (hr.mono (by omega)) b_Let_many_of v_Let_many_of pass0 (pa_cons (pe_fld (pv 0) rfl) pa_nil)) (pa_cons (pv 4) pa_nil)))) pa_nil)))
  (pss_cons (ps_set (i := 6) sc_step_code.nd rfl (Or.inl rfl) pe_int)
  (pss_cons (ps_if (pt_cmpR op_notN (pe_fld (pv 1) rfl) pe_non (nomark _))
  (pss_cons ps_never
  (pss_cons ps_never
  (pss_one ps_never)))
  pss_nil)
  (pss_cons (ps_expr (pe_call G_lay_form (hr.mono (by omega)) rfl T.g_lay_form p_lay_form b_lay_form v_lay_form pass0 (pa_cons (pv 5) (pa_cons (pe_fld (pv 1) rfl) (pa_cons pe_int (pa_cons (pv 6) (pa_cons (pe_op op_add (pv 6) pe_int) (pa_cons pe_int (pa_cons (pe_lst pa_nil) pa_nil)))))))))
  (pss_cons (ps_expr (pe_call G_lay_effect (hr.mono (by omega)) rfl T.g_lay_effect p_lay_effect b_lay_effect v_lay_effect pass0 (pa_cons (pv 5) (pa_cons (pv 1) (pa_cons (pv 6) pa_nil)))))
  (pss_cons (ps_expr (pe_meth (pv 5) T.c_Hand T.m_Hand_note G_Hand_note (hr.mono (by omega)) b_Hand_note v_Hand_note pass0 (pa_cons (pe_tup (pa_cons pe_str (pa_cons (pv 2) pa_nil))) pa_nil)))
  (pss_cons (ps_expr (pe_meth (pv 5) T.c_Hand T.m_Hand_note G_Hand_note (hr.mono (by omega)) b_Hand_note v_Hand_note pass0 (pa_cons (pe_tup (pa_cons pe_str pa_nil)) pa_nil)))
  (pss_one (ps_ret (pe_fld (pv 5) rfl))))))))))))), ?_⟩
    have hsz : sizeOf' f grp = 1 ∨ sizeOf' f grp = 2 ∨ sizeOf' f grp = 4 := by
      unfold sizeOf' grpOf
      rcases hg with e | e | e | e
      · rw [if_pos e]
        split
        · exact .inr (.inr rfl)
        · split
          · exact .inr (.inl rfl)
          · exact .inl rfl
      · rw [if_neg (by omega)]
        exact .inl e
      · rw [if_neg (by omega)]
        exact .inr (.inl e)
      · rw [if_neg (by omega)]
        exact .inr (.inr e)
    have e8 : (8 : Int).fdiv (sizeOf' f grp : Int) = ((8 / sizeOf' f grp : Nat) : Int) := by
      rcases hsz with e | e | e <;> rw [e] <;> rfl
    refine ⟨_, rfl, fun σ' H' => H' = H ∧ σ' = [some (.ref pg), some (.ref lt), some (.int 0), some (.int grp), some (.int (sizeOf' f grp)), none, none], ⟨_, rfl, rfl, _, rfl, ?_⟩, ?_⟩
    · by_cases e : grp = 0
      · rw [decide_eq_true (show V.int (grp : Int) = V.int 0 by rw [e]; rfl)]
        have es : sizeOf' f grp = grpOf f.need := if_pos e
        rw [es]
        exact iteT ⟨_, rfl, _, rfl, _, _, _, _, _, rfl, hpg, T.c_Program, T.n_Program_functions, L_Program_functions, lt, fm, _, f, rfl, Pg.le, Pg.fe, hdp, rfl, rfl⟩
      · rw [decide_eq_false (show ¬ V.int (grp : Int) = V.int 0 from fun z => e (by have := V.int.inj z; omega))]
        have es : sizeOf' f grp = grp := if_neg e
        rw [es]
        exact iteF ⟨rfl, rfl⟩
    rintro σ' H' ⟨rfl, rfl⟩
    generalize sizeOf' f grp = size at *
    refine ⟨_, rfl, _, _, _, _, _, rfl, hpg, T.c_Program, T.n_Program_lengths, L_Program_lengths, _, rfl, _, _, _, _, _, rfl, hpg, T.c_Program, T.n_Program_functions, L_Program_functions, _, rfl, _, _, rfl, rfl, ⟨by omega, by omega⟩, fun x dx hx hdx hne => ?_⟩
    have smd : Same H' (upd (upd H' dx (.own x)) x (.ins (He.ga K "Hand") dx [])) := fun z o hz => by
      rw [upd_ne (ne_of_none hz hx), upd_ne (ne_of_none hz hdx)]
      exact hz
    show spHandInit K [V.ref x, V.ref ln, V.ref fns, V.int ((8 : Int).fdiv (size : Int))] _ _ _
    rw [e8]
    refine ⟨x, dx, _, _, _, rfl, upd_same, fun c H1 hc hc1 hh1 f1 => ⟨rfl, ?_⟩⟩
    have s1 : Same H' H1 := fun z o hz => f1 z o (smd z o hz) (ne_of_none hz hx)
    have P1 := Pg.same s1
    obtain ⟨pdx1, hpg1⟩ := P1.pe
    obtain ⟨ldx1, hlt1⟩ := P1.le.ex
    have hc0 : H' c = none := smd.free hc
    have A1 : HandAt K x ln fns c lens (8 / size) [] H1 := ⟨⟨dx, hh1⟩, P1.lne, hc1, ne_of_none Pg.lne hc0⟩
    have K0 : LaidF (fun _ Hx => Q (.ref c) Hx) c H1 [] ([.str "begin", .int ((lens[0]?).getD 0), .int size] :: (layF lens (8 / size) f 0 0 ++ ([[.str "trim"], [.str "store", .int 0, .int 0, .int 0]] ++ [[.str "stop", .int 0], [.str "next"]]))) :=
      fun H2 ys f2 hc2 s2 => k H2 c ys hc0 (same_of (ButL.trans (fun a o ha _ => s1 a o ha) f2) hc0) hc2 s2
    -- begin
    refine ⟨_, rfl, _, _, _, rfl, hh1, rfl, _, rfl, _, _, _, rfl, hlt1, rfl, _, rfl, _, _, _, _, _, rfl, hpg1, T.c_Program, T.n_Program_lengths, L_Program_lengths, lt, fm, ln, lens, rfl, P1.le, P1.lne, hl0, _, rfl, (by show 3 ≤ sizeLine; decide), fun q hq => ?_⟩
    refine ⟨x, ln, fns, c, lens, 8 / size, [], .ref q, rfl, A1.new hq, (by show 0 < 1000; decide), ?_⟩
    have K1 := LaidF.note K0 A1 hq
    have A2 := (A1.new (o := .tup [.str "begin", .int ((lens[0]?).getD 0), .int size]) hq).put (ys := [] ++ [.ref q])
    have g2 : ButL c H' _ := ButL.trans (fun a o ha _ => s1 a o ha) ((ButL.new (o := .tup [.str "begin", .int ((lens[0]?).getD 0), .int size]) hq).trans (ButL.put (o := .lst ([] ++ [.ref q]))))
    have P2 := Pg.same (same_of g2 hc0)
    obtain ⟨ldx2, hlt2⟩ := P2.le.ex
    refine ⟨_, rfl, _, _, _, _, _, rfl, hlt2, T.c_Let, T.n_Let_test, L_Let_test, rfl, _, rfl, iteF ?_⟩
    refine ⟨_, rfl, _, rfl, _, _, _, _, _, rfl, hlt2, T.c_Let, T.n_Let_value, L_Let_value, _, rfl, _, rfl, _, _, rfl, rfl, (by show 0 ≤ sizeLine; decide), fun q2 hq2 => ?_⟩
    refine ⟨x, ln, fns, c, fm, lens, 8 / size, _, 0, 0, f, _, _, rfl, A2.new hq2, P2.fe.same (same_new hq2), hdp, hrw, ?_, fun H3 ys f3 hc3 s3 => ?_⟩
    · show 1 + _ < 1000
      omega
    have K3 := LaidF.cut K1 upd_same ((ButL.new hq2).trans f3) hc3 s3
    have A3 := (A2.new (o := .lst []) hq2).mono f3 hc3
    have g3 := g2.trans ((ButL.new (o := .lst []) hq2).trans f3)
    have P3 := Pg.same (same_of g3 hc0)
    have ly := s3.length
    refine ⟨_, rfl, _, rfl, _, rfl, x, ln, fns, c, lt, fm, lens, 8 / size, _, rfl, A3, P3.le, ?_, fun H4 zs f4 hc4 s4 => ?_⟩
    · rw [List.length_append]
      show 1 + _ + 2 < 1000
      omega
    have K4 := LaidF.cut K3 A3.co f4 hc4 s4
    have A4 := A3.mono f4 hc4
    have lz : zs.length = 2 := s4.length
    obtain ⟨hdx4, hh4⟩ := A4.ho
    refine ⟨_, rfl, _, _, _, rfl, hh4, rfl, _, rfl, (by show 2 ≤ sizeLine; decide), fun q5 hq5 => ?_⟩
    refine ⟨x, ln, fns, c, lens, 8 / size, _, .ref q5, rfl, A4.new hq5, ?_, ?_⟩
    · rw [List.length_append, List.length_append]
      show 1 + _ + _ < 1000
      omega
    have K5 := LaidF.note K4 A4 hq5
    have A5 := (A4.new (o := .tup [.str "stop", .int 0]) hq5).put (ys := [] ++ [.ref q] ++ ys ++ zs ++ [.ref q5])
    obtain ⟨hdx5, hh5⟩ := A5.ho
    refine ⟨_, rfl, _, _, _, rfl, hh5, rfl, (by show 1 ≤ sizeLine; decide), fun q6 hq6 => ?_⟩
    refine ⟨x, ln, fns, c, lens, 8 / size, _, .ref q6, rfl, A5.new hq6, ?_, ?_⟩
    · rw [List.length_append, List.length_append, List.length_append]
      show 1 + _ + _ + 1 < 1000
      omega
    have K6 := LaidF.note K5 A5 hq6
    have A6 := (A5.new (o := .tup [.str "next"]) hq6).put (ys := [] ++ [.ref q] ++ ys ++ zs ++ [.ref q5] ++ [.ref q6])
    obtain ⟨hdx6, hh6⟩ := A6.ho
    exact ⟨_, rfl, _, _, _, _, _, rfl, hh6, T.c_Hand, T.n_Hand_code, L_Hand_code, K6.end_ upd_same⟩
theorem sc_steps_code : FnScope ["program", "steps", "first", "group", "code", "number", "step"] ["program", "steps", "first", "group"] (defScope s_steps_code) := ⟨rfl, rfl, rfl, by decide +kernel, rfl, by decide +kernel, by decide +kernel⟩
theorem bi_steps_code {K : PySem.W.Frag} {f : Addr} {fd : FuncData} (F : FunD K "steps_code" "steps_code" (defArgs s_steps_code) (defBody s_steps_code) (defScope s_steps_code) [] [] f fd) : Binds K fd ["program", "steps", "first", "group"] [] := F.bindsN fun _ _ _ _ _ _ us hl => match us, hl with | [_, _, _, _], _ => rfl
theorem ok_steps_code (T : Tx K mg) (d : Nat) (hd : d ≤ 4) : Gd P w K mg base CX0 (10 * d + 11) (He.fAd K ("steps_code", none)) ["program", "steps", "first", "group"] [] (spStepsCode K d) := by
  obtain ⟨fd_step_code, G_step_code, p_step_code, ds_step_code, v_step_code, b_step_code⟩ := ok_step_code (P := P) (w := w) (base := base) T d hd
  obtain ⟨fd_count_of, G_count_of, p_count_of, ds_count_of, v_count_of, b_count_of⟩ := ok_count_of (P := P) (w := w) (base := base) T
  refine gd_mk (k := 10 * d + 10) T.d_steps_code sc_steps_code (fun F => bn (bi_steps_code F)) (fun vs H Q E h => ?_) (fun cdv A outer s H vs Q E hr h => ?_)
  · obtain ⟨_, _, _, _, _, _, _, _, _, rfl, _⟩ := h
    rfl
  · obtain ⟨pg, lt, fm, ln, fns, sts, lens, f, grp, rfl, Pg, hdp, hrw, hl0, hg, hlen, k⟩ := h
    refine ⟨_, (pss_cons (ps_set (i := 4) sc_steps_code.nd rfl (Or.inl rfl) (pe_lst pa_nil))
  (pss_cons (ps_set (i := 5) sc_steps_code.nd rfl (Or.inl rfl) (pv 2))
  (pss_cons (ps_for PassesOwn.never rfl (pi_list (pv 1)) (pg_name (i := 6) sc_steps_code.nd rfl (Or.inl rfl))
  (pss_cons (ps_if (pt_val (pe_callB call_isi (by rfl) T.b_isinstance (by decide +kernel) (pa_cons (pv 6) (pa_cons (pe_glob (v := .ref (He.ga K "Till")) rfl T.g_Till rfl) pa_nil))))
  (pss_one ps_never)
  (pss_one (ps_expr (pe_bm PySem.F.plainAttrs_list PySem.F.slot_list_extend PySem.F.type_list_extend mt_extend (pv 4) (pa_cons (pe_call G_step_code (hr.mono (by omega)) rfl T.g_step_code p_step_code b_step_code v_step_code pass0 (pa_cons (pv 0) (pa_cons (pv 6) (pa_cons (pv 5) (pa_cons (pv 3) pa_nil))))) pa_nil)))))
  (pss_one (ps_aug (i := 5) sc_steps_code.nd rfl (Or.inl rfl) (pe_call G_count_of (hr.mono (by omega)) rfl T.g_count_of p_count_of b_count_of v_count_of pass0 (pa_cons (pe_lst (pa_cons (pv 6) pa_nil)) pa_nil)) ip_add))))
  (pss_one (ps_ret (pv 4)))))), ?_⟩
    refine ⟨(by show 0 ≤ sizeLine; decide), fun c hc => ?_⟩
    refine ⟨_, rfl, _, rfl, sts, rfl, ⟨_, seql (same_new hc _ _ Pg.ste)⟩, for_list (K := K) (a := sts) (xs := [V.ref lt]) (fun i σ H2 => ∃ v1 : Option V, Same H H2 ∧ σ = [some (.ref pg), some (.ref sts), some (.int 0), some (.int grp), some (.ref c), some (.int i), v1] ∧ ((i = 0 ∧ H2 c = some (.lst [])) ∨ (i = 1 ∧ ∃ refs, H2 c = some (.lst refs) ∧ StepsAt H2 refs (codeOf lens f (sizeOf' f grp))))) ?_ ?_ ?_ ?_⟩
    · exact ⟨_, same_new hc, rfl, .inl ⟨rfl, upd_same⟩⟩
    · rintro i σ H2 hi ⟨v1, e1, rfl, _⟩
      exact seql (e1 _ _ Pg.ste)
    · rintro i x σ H2 hx ⟨v1, e1, rfl, h2⟩
      rcases h2 with ⟨rfl, hc2⟩ | ⟨rfl, _⟩
      rotate_left
      · cases hx
      obtain rfl : x = .ref lt := (Option.some.inj hx).symm
      have P2 := Pg.same e1
      obtain ⟨ldx, hlt⟩ := P2.le.ex
      refine ⟨_, rfl, _, _, _, _, false, rfl, .own _, isiB T "Let" T.c_Let hlt, T.kit "Let" "Till" false, _, rfl, iteF ?_⟩
      refine ⟨_, rfl, .inl ⟨rfl, _, .inl (.inl hc2)⟩, _, rfl, _, rfl, _, rfl, _, rfl, pg, lt, fm, ln, fns, sts, lens, f, grp, rfl, P2, hdp, hrw, hl0, hg, hlen, fun H3 a refs ha s3 ha3 st3 => ?_⟩
      have ac : a ≠ c := fun z => by
        rw [z, hc2] at ha
        cases ha
      have hlr : refs.length ≤ 1000 := by
        rw [st3.length]
        unfold codeOf
        rw [List.length_cons, List.length_append]
        show _ + 4 + 1 ≤ 1000
        omega
      refine ⟨c, a, [], refs, rfl, rfl, s3 _ _ hc2, ha3, Nat.le_trans (show 0 + refs.length ≤ 1000 by omega) (by rw [sizeLine_eq]; decide), ?_⟩
      have bl : ButL c H3 (upd H3 c (.lst ([] ++ refs))) := ButL.put
      have e4 : Same H (upd H3 c (.lst ([] ++ refs))) := same_of (ButL.trans (fun a o h _ => s3 _ _ (e1 _ _ h)) bl) hc
      refine ⟨_, rfl, _, rfl, (by show 1 ≤ sizeLine; decide), fun q hq => ⟨q, lt, fm, rfl, upd_same, (Pg.same e4).le.same (same_new hq), _, _, rfl, rfl, _, fun z o hz => same_new hq _ _ (e4 _ _ hz), rfl, .inr ⟨rfl, refs, same_new hq _ _ upd_same, (st3.mono (s3 _ _ hc2) bl).same (same_new hq)⟩⟩⟩
    · rintro σ H2 ⟨v1, e1, rfl, h2⟩
      rcases h2 with ⟨h, _⟩ | ⟨_, refs, hc2, st2⟩
      · cases h
      exact ⟨_, rfl, k H2 c refs hc e1 hc2 st2⟩
theorem bi_made {K : PySem.W.Frag} {f : Addr} {fd : FuncData} (F : FunD K "made" "made" (defArgs s_made) (defBody s_made) (defScope s_made) [V.int 0] [] f fd) : ∃ ds, Vals [V.int 0] ds ∧ Binds K fd ["program", "group"] ds :=
  F.binds1 1 0 (by intro z; cases z) rfl fun _ _ _ _ _ _ _ us its h1 h2 => match us, its, h1, h2 with
    | [_], [_], _, _ => ⟨_, rfl, rfl⟩
theorem bi_madeG {K : PySem.W.Frag} {f : Addr} {fd : FuncData} (F : FunD K "made" "made" (defArgs s_made) (defBody s_made) (defScope s_made) [V.int 0] [] f fd) : ∃ ds, Vals [] ds ∧ Binds K fd ["program", "group"] ds :=
  F.binds1 2 1 (by intro z; cases z) rfl fun _ _ _ _ _ _ _ us its h1 h2 => match us, its, h1, h2 with
    | [_, _], [_], _, _ => ⟨_, rfl, rfl⟩
theorem sc_made : FnScope ["program", "group"] ["program", "group"] (defScope s_made) := ⟨rfl, rfl, rfl, by decide +kernel, rfl, by decide +kernel, by decide +kernel⟩
theorem ok_made (T : Tx K mg) (d : Nat) (hd : d ≤ 4) {dvs : List V} (hb : ∀ {fd : FuncData}, FunD K "made" "made" (defArgs s_made) (defBody s_made) (defScope s_made) [V.int 0] [] (He.fAd K ("made", none)) fd → ∃ ds, Vals dvs ds ∧ Binds K fd ["program", "group"] ds) :
    Gd P w K mg base CX0 (10 * d + 12) (He.fAd K ("made", none)) ["program", "group"] dvs (spMade K d) := by
  obtain ⟨fd_steps_code, G_steps_code, p_steps_code, ds_steps_code, v_steps_code, b_steps_code⟩ := ok_steps_code (P := P) (w := w) (base := base) T d hd
  refine gd_mk (k := 10 * d + 11) T.d_made sc_made hb (fun vs H Q E h => ?_) (fun cdv A outer s H vs Q E hr h => ?_)
  · obtain ⟨_, _, _, _, _, _, _, _, _, rfl, _⟩ := h
    rfl
  · obtain ⟨pg, lt, fm, ln, fns, sts, lens, f, grp, rfl, Pg, hdp, hrw, hl0, hg, hlen, k⟩ := h
    obtain ⟨pdx, hpg⟩ := Pg.pe
    refine ⟨_, (pss_one (ps_ret (pe_call G_steps_code (hr.mono (by omega)) rfl T.g_steps_code p_steps_code b_steps_code v_steps_code pass0 (pa_cons (pv 0) (pa_cons (pe_fld (pv 0) rfl) (pa_cons pe_int (pa_cons (pv 1) pa_nil))))))), ?_⟩
    exact ⟨_, rfl, _, rfl, _, _, _, _, _, rfl, hpg, T.c_Program, T.n_Program_steps, L_Program_steps, _, rfl, pg, lt, fm, ln, fns, sts, lens, f, grp, rfl, Pg, hdp, hrw, hl0, hg, hlen, k⟩
end
end Rb
set_option Elab.async false
set_option linter.all false
set_option maxRecDepth 100000
set_option maxHeartbeats 4000000
/-! list(reversed(a list)): a new list -/
namespace Rb
open PySem PySem.Spec PyProof.Rows L2
section
variable {prog : Program} {w : World} {A : Around} {E : Value → Shared → Prop} {s : Shared}
/-- what a list made from the back holds -/
abbrev Backs (xs acc : Array Value) : Prop := ItemsOf (fun i v => xs[xs.size - 1 - i]? = some v) acc xs.size
theorem lr_ext {R : Result → Shared → Prop} {it l : Addr} {xs : Array Value} (hh : A.handled = none) (hit : s.heap.IsRevIter it l ((xs.size : Int) - 1)) (hl : s.heap.IsList l xs) (hne : l ≠ it) (hz : xs.size ≤ sizeLine) (N : Addr) (res : Value) (c0 : Nat)
    (hN : s.heap.get? N = some { cls := .type "list", data := .seq #[] c0 }) (ni : N ≠ it) (nl : N ≠ l)
    (k : ∀ h2 t2 acc c2, (∀ b o, b ≠ N → b ≠ it → s.heap.get? b = some o → h2.get? b = some o) → h2.get? N = some { cls := .type "list", dict := none, data := .seq acc c2, slots := #[] } → Backs xs acc → R (.ok (.ret res)) { s with heap := h2, toks := t2 }) :
    wpAny (model prog w) A.in1 (Builtin.List.listExtendWith (.ref N) (.ref it) res) (fun fin s' => match fin with | .done f => R (.ok f) s' | .again c' => c'.quiet = true ∧ codeAny (model prog w) A c' R s') (fun e s' => R (.error e) s') s := by
  have W := (Walks.listRev (prog := prog) (w := w) (A := A.in1) hh it l hne xs).toS
  have nf : N ∉ [it, l] := by simp [ni, nl]
  have ty : s.TypeIs (.ref it) "list_reverseiterator" := hit.typeIs
  have nsame : Builtin.List.listSameRef (.ref N) (.ref it) = false := by simp [Builtin.List.listSameRef, ni]
  unfold Builtin.List.listExtendWith; refine wpAny_bind (wpAny_typeOf ty ?_); rw [if_neg (by rw [nsame]; decide)]
  refine wpAny_bind (wpAny_pyIter_revIter hit ?_); refine wpAny_bind (wpAny_holding ?_)
  unfold Builtin.List.listLengthHint; refine wpAny_bind (wpAny_specialOf ty RT.nolen_lri ?_)
  refine wpAny_bind (m := specialOf (Value.ref it) (Str.ofString "__length_hint__")) (wpAny_specialOf ty RT.hint_lri ?_)
  generalize hx : ("list_reverseiterator.__length_hint__" : String) = nm
  wp_delta
  rw [show splitId nm = some ("list_reverseiterator", "__length_hint__") from by subst hx; decide +kernel]; subst hx
  refine wpAny_bind (wpAny_isInstance (b := true) ty (by rw [isSubtype_type]; kernel_rfl) ?_); refine wpAny_pure ?_; rw [if_neg (by decide)]
  have e0 : ((xs.size : Nat) : Int) - 1 - ((0 : Nat) : Int) = (xs.size : Int) - 1 := Int.sub_zero _
  refine wpAny_pure ⟨plainId_quiet F.plain_extend_loop _, codeAny_extend_loopS W hz N nf res xs.size 0 _ #[] c0 rfl (Nat.zero_le _) ⟨Nat.zero_le _, by rw [e0]; exact hit, hl⟩ hN (ItemsOf.nil _) fun s2 acc c2 mv g2 ok => ?_⟩
  rw [Moved.eq_with mv]
  refine k s2.heap s2.toks acc c2 (fun b o h1 h2 e => mv.heap b o (fun hm => ?_) e) g2 ok
  rcases List.mem_cons.mp hm with z | z
  · exact h1 z
  · exact h2 (List.mem_singleton.mp z)
theorem lr_init {R : Result → Shared → Prop} {it l : Addr} {xs : Array Value} (hh : A.handled = none) (hit : s.heap.IsRevIter it l ((xs.size : Int) - 1)) (hl : s.heap.IsList l xs) (hne : l ≠ it) (hz : xs.size ≤ sizeLine) (N : Addr)
    (hN : s.heap.get? N = some { cls := .type "list", data := .seq #[] }) (ni : N ≠ it) (nl : N ≠ l)
    (k : ∀ h2 t2 acc c2, (∀ b o, b ≠ N → b ≠ it → s.heap.get? b = some o → h2.get? b = some o) → h2.get? N = some { cls := .type "list", dict := none, data := .seq acc c2, slots := #[] } → Backs xs acc → R (.ok (.ret .none)) { s with heap := h2, toks := t2 }) :
    wpAny (model prog w) A.in1 (Builtin.«list.__init__» ⟨[.ref N, .ref it], []⟩) (fun fin s' => match fin with | .done f => R (.ok f) s' | .again c' => c'.quiet = true ∧ codeAny (model prog w) A c' R s') (fun e s' => R (.error e) s') s := by
  show wpAny _ _ (do let o ← Builtin.List.listItems (.ref N); Builtin.List.listUpdate (.ref N) (fun _ => #[]); letGo o.toList.reverse; Builtin.List.listExtendWith (.ref N) (.ref it) .none) _ _ s
  refine wpAny_bind ?_; unfold Builtin.List.listItems; refine wpAny_bind (wpAny_seqItems hN rfl (wpAny_pure ?_))
  refine wpAny_bind (m := updateSeq N (fun _ => #[])) (wpAny_updateSeq hN rfl ?_)
  have g2 := Heap.get?_update_self (Obj.mapSeq (fun _ => (#[] : Array Value))) hN rfl
  have kp : ∀ b o, b ≠ N → s.heap.get? b = some o → (s.heap.update N (Obj.mapSeq (fun _ => (#[] : Array Value)))).get? b = some o := fun b o hb e => (Heap.get?_update_other _ _ hb.symm).trans e
  refine wpAny_bind (wpAny_letGo ?_)
  obtain ⟨ol, hol, rl⟩ := hl
  exact lr_ext hh (hit.at fun o e => kp it o ni.symm e) ⟨ol, kp l ol nl.symm hol, rl⟩ hne hz N .none _ g2 ni nl fun h2 t2 acc c2 k2 e2 ok => k h2 t2 acc c2 (fun b o n1 n2 e => k2 b o n1 n2 (kp b o n1 e)) e2 ok
theorem lr_call {Q : Value → Shared → Prop} {it l : Addr} {xs : Array Value} (hh : A.handled = none) (hit : s.heap.IsRevIter it l ((xs.size : Int) - 1)) (hl : s.heap.IsList l xs) (hne : l ≠ it) (hz : xs.size ≤ sizeLine)
    (k : ∀ h2 t2 acc c2, (∀ b o, b ≠ it → s.heap.get? b = some o → h2.get? b = some o) → h2.get? s.heap.objs.size = some { cls := .type "list", dict := none, data := .seq acc c2, slots := #[] } → Backs xs acc → Q (.ref s.heap.objs.size) { s with heap := h2, toks := t2 }) :
    wpAny (model prog w) A (call (.type "list") [.ref it]) Q E s := by
  obtain ⟨oi, hoi, ri⟩ := id hit
  obtain ⟨ol, hol, rl⟩ := id hl
  refine callType_codes (Q₁ := fun u s1 => u = .ref s.heap.objs.size ∧ s1 = { s with heap := s.heap.push { cls := .type "list", data := .seq #[] } }) F.called_list (F.typeCall_list_1 _) F.entry_list_init (code_list_new _ ⟨rfl, rfl⟩) fun u s1 hu => ?_
  obtain ⟨rfl, rfl⟩ := hu
  have gN : (s.heap.push { cls := .type "list", data := .seq #[] }).get? s.heap.objs.size = some { cls := .type "list", data := .seq #[] } := Heap.get?_push_size _ rfl
  refine ⟨⟨_, gN, rfl⟩, F.args_list_init_2 _ _, lr_init (A := A.in1) hh ⟨oi, Heap.get?_push_of_some _ hoi, ri⟩ (hl.push _) hne hz _ gN (Nat.ne_of_gt (Heap.lt_size hoi)) (Nat.ne_of_gt (Heap.lt_size hol)) fun h2 t2 acc c2 k2 e2 ok => ?_⟩
  exact ⟨rfl, k h2 t2 acc c2 (fun b o n e => k2 b o (Nat.ne_of_lt (Heap.lt_size e)) n (Heap.get?_push_of_some _ e)) e2 ok⟩
end
/-- list(reversed(x)), x a list -/
def tListRev (K : PySem.W.Frag) (te : TE) : TE := fun σ H Q => te σ H fun v H1 => ∃ (a : Addr) (xs : List V), v = .ref a ∧ SqL K H1 a xs ∧ ∀ q, H1 q = none → Q (.ref q) (upd H1 q (.lst xs.reverse))
section
variable {X : Cx}
theorem pe_listRev {e : Expr} {te : TE} {p p2 pos pos2 : Pos} (hc : X.calm = true) (hg : Gl X "list") (hm : X.mg "list" = none) (hg2 : Gl X "reversed") (hm2 : X.mg "reversed" = none) (he : PE X e te)
    (h1 : starEach [e] X.env = (false, eval e X.env) :: starEach [] X.env := by rfl) (h2 : starEach [.Call (.Name "reversed" p2) [e] [] pos2] X.env = (false, eval (.Call (.Name "reversed" p2) [e] [] pos2) X.env) :: starEach [] X.env := by rfl) :
    PE X (.Call (.Name "list" p) [.Call (.Name "reversed" p2) [e] [] pos2] [] pos) (tListRev X.K te) := by
  refine ⟨fun pins s σ H Q I h => Call_ (ld_blt I hg hm boot_list (PyProof.Rows.callWith_type1 (args_cons (Call_ (ld_blt I hg2 hm2 PyProof.Rows.boot_reversed (PyProof.Rows.callWith_type1 (args_cons (thn (he.run pins s σ H _ I h) fun u s1 ⟨v, H1, I1, r1, q1⟩ => args_nil ?_) h1) h1 rfl))) h2) h2 rfl))⟩
  obtain ⟨a, xs, rfl, hq, q⟩ := q1
  obtain rfl : u = Value.ref a := r1
  obtain ⟨its, rv, pl, hz⟩ := I1.list hq
  have isl := pl.isList
  obtain ⟨ol, hol, _⟩ := id isl
  have hn : its.toArray.size ≤ sizeLine := by rw [List.size_toArray, ← rv.length]; exact hz
  refine call_reversed_list isl (args_nil ?_)
  have I2 : Inv X pins σ H1 { s1 with heap := s1.heap.push (revObj a ((its.toArray.size : Int) - 1)) } := I1.kept (t' := s1.toks) fun b o e => Heap.get?_push_of_some _ e
  obtain ⟨f0, f1, f2, f3, f4, f5⟩ := I1.fpOk (H' := H1) (b := s1.heap.objs.size) (Nat.le_refl _) (I1.hok.fresh (Nat.le_refl _))
  refine lr_call (s := { s1 with heap := s1.heap.push (revObj a ((its.toArray.size : Int) - 1)) }) (I1.ok.hd hc) ⟨_, Heap.get?_push_size _ rfl, rfl, rfl⟩ (isl.push _) (Nat.ne_of_lt (Heap.lt_size hol)) hn fun h2 t2 acc c2 kp e2 ok => ?_
  have sz : (s1.heap.push (revObj a ((its.toArray.size : Int) - 1))).objs.size = s1.heap.objs.size + 1 := by simp [Heap.push]
  have kp1 : ∀ b o, s1.heap.get? b = some o → h2.get? b = some o := fun b o e => kp b o (Nat.ne_of_lt (Heap.lt_size e)) (Heap.get?_push_of_some _ e)
  have ge : s1.heap.objs.size ≤ (s1.heap.push (revObj a ((its.toArray.size : Int) - 1))).objs.size := by rw [sz]; exact Nat.le_succ _
  exact ⟨.ref (s1.heap.push (revObj a ((its.toArray.size : Int) - 1))).objs.size, upd H1 _ (.lst xs.reverse), I1.laid (t' := t2) kp1 ge (show ObjOk X.prog X.w _ h2 _ (.lst xs.reverse) from ⟨by rw [List.length_reverse]; exact hz, acc.toList, c2, RT.vals_rev rv ok, by rw [Array.toArray_toList]; exact e2⟩), rfl, q _ (I1.hok.fresh ge)⟩
end
end Rb
set_option Elab.async false
set_option linter.all false
set_option maxRecDepth 100000
set_option maxHeartbeats 4000000
/-! the shortener: words of steps -/
namespace Rb
open PySem PySem.Spec PyProof.Rows L2
/-- a step of the code: its word, the rest -/
structure Sx where
  w : Str
  r : List L2.Key
def Sx.k (s : Sx) : List L2.Key := Sum.inr s.w :: s.r
def Sx.v (s : Sx) : List V := s.k.map kV
theorem Sx.v0 (s : Sx) : s.v[0]? = some (.str s.w) := rfl
def wIn (x : Str) (l : List Str) : Bool := inV (.str x) (l.map V.str)
def laysSeat (s : Sx) : Bool := wIn s.w ["number", "here", "load", "spread", "shift", "gather", "op", "pick", "copy", "bring"]
def laysMask (s : Sx) : Bool := wIn s.w ["choose", "other"]
def writesRow (s : Sx) : Bool := wIn s.w ["store", "put", "fold", "running"]
def mayFault (s : Sx) : Option Bool := if s.w = "gather" then some true else if s.w = "op" then (match s.k[2]? with | some (Sum.inr x) => some (wIn x ["/", "rest"]) | _ => none) else some false
def seatAts (s : Sx) : List Nat :=
  if wIn s.w ["reach", "any"] = true then [1] else if wIn s.w ["gather", "copy", "save", "choose", "other", "store"] = true then [2] else if wIn s.w ["fold", "running"] = true then [3] else if wIn s.w ["pick", "put"] = true then [2, 3] else
  if s.w = "op" then [3, 4] else []
def maskAts (s : Sx) : List Nat := if wIn s.w ["begin", "next", "trim", "stop", "turns", "quiet", "till"] = true then [] else if s.w = "pick" then [4, 5] else [s.r.length]
def spWord (f : Sx → Bool) : Sp := fun vs H Q _ => ∃ (a : Addr) (s : Sx), vs = [.ref a] ∧ H a = some (.tup s.v) ∧ ∀ H', Same H H' → Q (.bl (f s)) H'
def spFault : Sp := fun vs H Q _ => ∃ (a : Addr) (s : Sx) (b : Bool), vs = [.ref a] ∧ H a = some (.tup s.v) ∧ mayFault s = some b ∧ ∀ H', Same H H' → Q (.bl b) H'
def spPlaces (f : Sx → List Nat) : Sp := fun vs H Q _ => ∃ (a : Addr) (s : Sx), vs = [.ref a] ∧ H a = some (.tup s.v) ∧ ∀ q H', H q = none → Same H H' → H' q = some (.lst ((f s).map fun i => V.int (i : Nat))) → Q (.ref q) H'
section
variable {P : Program} {w : World} {K : PySem.W.Frag} {mg : Str → Option Value} {base : Heap}
theorem sc_lays_seat : FnScope ["step"] ["step"] (defScope s_lays_seat) := ⟨rfl, rfl, rfl, by decide +kernel, rfl, by decide +kernel, by decide +kernel⟩
theorem bi_lays_seat {K : PySem.W.Frag} {f : Addr} {fd : FuncData} (F : FunD K "lays_seat" "lays_seat" (defArgs s_lays_seat) (defBody s_lays_seat) (defScope s_lays_seat) [] [] f fd) : Binds K fd ["step"] [] := F.bindsN fun _ _ _ _ _ _ us hl => match us, hl with | [_], _ => rfl
theorem ok_lays_seat (T : Tx K mg) : Gd P w K mg base CX0 1 (He.fAd K ("lays_seat", none)) ["step"] [] (spWord laysSeat) := by
  refine gd_mk T.d_lays_seat sc_lays_seat (fun F => bn (bi_lays_seat F)) (fun vs H Q E h => ?_) (fun cdv A outer s H vs Q E hr h => ?_)
  · obtain ⟨_, _, rfl, _⟩ := h
    rfl
  · obtain ⟨a, st, rfl, ha, k⟩ := h
    refine ⟨_, (pss_one (ps_ret (pe_cmpR op_in_seq (pe_ix ix_tup (pv 0) pe_int (fun _ _ => rfl)) (pe_tup (pa_cons pe_str (pa_cons pe_str (pa_cons pe_str (pa_cons pe_str (pa_cons pe_str (pa_cons pe_str (pa_cons pe_str (pa_cons pe_str (pa_cons pe_str (pa_cons pe_str pa_nil))))))))))) rfl))), ?_⟩
    refine ⟨_, rfl, a, _, _, _, rfl, rfl, seqt ha, atI_nat (j := 0) st.v0, (by show 10 ≤ sizeLine; decide), fun q hq => ?_⟩
    exact ⟨q, _, rfl, .inr (seqt upd_same), rfl, rfl, k _ (same_new hq)⟩
theorem sc_lays_mask : FnScope ["step"] ["step"] (defScope s_lays_mask) := ⟨rfl, rfl, rfl, by decide +kernel, rfl, by decide +kernel, by decide +kernel⟩
theorem bi_lays_mask {K : PySem.W.Frag} {f : Addr} {fd : FuncData} (F : FunD K "lays_mask" "lays_mask" (defArgs s_lays_mask) (defBody s_lays_mask) (defScope s_lays_mask) [] [] f fd) : Binds K fd ["step"] [] := F.bindsN fun _ _ _ _ _ _ us hl => match us, hl with | [_], _ => rfl
theorem ok_lays_mask (T : Tx K mg) : Gd P w K mg base CX0 1 (He.fAd K ("lays_mask", none)) ["step"] [] (spWord laysMask) := by
  refine gd_mk T.d_lays_mask sc_lays_mask (fun F => bn (bi_lays_mask F)) (fun vs H Q E h => ?_) (fun cdv A outer s H vs Q E hr h => ?_)
  · obtain ⟨_, _, rfl, _⟩ := h
    rfl
  · obtain ⟨a, st, rfl, ha, k⟩ := h
    refine ⟨_, (pss_one (ps_ret (pe_cmpR op_in_seq (pe_ix ix_tup (pv 0) pe_int (fun _ _ => rfl)) (pe_tup (pa_cons pe_str (pa_cons pe_str pa_nil))) rfl))), ?_⟩
    refine ⟨_, rfl, a, _, _, _, rfl, rfl, seqt ha, atI_nat (j := 0) st.v0, (by show 2 ≤ sizeLine; decide), fun q hq => ?_⟩
    exact ⟨q, _, rfl, .inr (seqt upd_same), rfl, rfl, k _ (same_new hq)⟩
theorem sc_writes_row : FnScope ["step"] ["step"] (defScope s_writes_row) := ⟨rfl, rfl, rfl, by decide +kernel, rfl, by decide +kernel, by decide +kernel⟩
theorem bi_writes_row {K : PySem.W.Frag} {f : Addr} {fd : FuncData} (F : FunD K "writes_row" "writes_row" (defArgs s_writes_row) (defBody s_writes_row) (defScope s_writes_row) [] [] f fd) : Binds K fd ["step"] [] := F.bindsN fun _ _ _ _ _ _ us hl => match us, hl with | [_], _ => rfl
theorem ok_writes_row (T : Tx K mg) : Gd P w K mg base CX0 1 (He.fAd K ("writes_row", none)) ["step"] [] (spWord writesRow) := by
  refine gd_mk T.d_writes_row sc_writes_row (fun F => bn (bi_writes_row F)) (fun vs H Q E h => ?_) (fun cdv A outer s H vs Q E hr h => ?_)
  · obtain ⟨_, _, rfl, _⟩ := h
    rfl
  · obtain ⟨a, st, rfl, ha, k⟩ := h
    refine ⟨_, (pss_one (ps_ret (pe_cmpR op_in_seq (pe_ix ix_tup (pv 0) pe_int (fun _ _ => rfl)) (pe_tup (pa_cons pe_str (pa_cons pe_str (pa_cons pe_str (pa_cons pe_str pa_nil))))) rfl))), ?_⟩
    refine ⟨_, rfl, a, _, _, _, rfl, rfl, seqt ha, atI_nat (j := 0) st.v0, (by show 4 ≤ sizeLine; decide), fun q hq => ?_⟩
    exact ⟨q, _, rfl, .inr (seqt upd_same), rfl, rfl, k _ (same_new hq)⟩
theorem sc_may_fault : FnScope ["step"] ["step"] (defScope s_may_fault) := ⟨rfl, rfl, rfl, by decide +kernel, rfl, by decide +kernel, by decide +kernel⟩
theorem bi_may_fault {K : PySem.W.Frag} {f : Addr} {fd : FuncData} (F : FunD K "may_fault" "may_fault" (defArgs s_may_fault) (defBody s_may_fault) (defScope s_may_fault) [] [] f fd) : Binds K fd ["step"] [] := F.bindsN fun _ _ _ _ _ _ us hl => match us, hl with | [_], _ => rfl
theorem ok_may_fault (T : Tx K mg) : Gd P w K mg base CX0 1 (He.fAd K ("may_fault", none)) ["step"] [] spFault := by
  refine gd_mk T.d_may_fault sc_may_fault (fun F => bn (bi_may_fault F)) (fun vs H Q E h => ?_) (fun cdv A outer s H vs Q E hr h => ?_)
  · obtain ⟨_, _, _, rfl, _⟩ := h
    rfl
  · obtain ⟨a, st, b, rfl, ha, hb, k⟩ := h
    refine ⟨_, (pss_one (ps_ret (pe_or (pe_cmpR op_eq (pe_ix ix_tup (pv 0) pe_int (fun _ _ => rfl)) pe_str (nomark _)) (pe_one (pe_and (pe_cmpR op_eq (pe_ix ix_tup (pv 0) pe_int (fun _ _ => rfl)) pe_str (nomark _)) (pe_one (pe_cmpR op_in_seq (pe_ix ix_tup (pv 0) pe_int (fun _ _ => rfl)) (pe_tup (pa_cons pe_str (pa_cons pe_str pa_nil))) rfl))))))), ?_⟩
    unfold mayFault at hb
    refine ⟨_, rfl, a, _, _, _, rfl, rfl, seqt ha, atI_nat (j := 0) st.v0, rfl, ?_⟩
    by_cases e1 : st.w = "gather"
    · rw [if_pos e1] at hb
      cases hb
      rw [decide_eq_true (show V.str st.w = V.str "gather" by rw [e1])]
      exact ⟨_, rfl, iteT (k _ (Same.refl _))⟩
    · rw [if_neg e1] at hb
      rw [decide_eq_false (show ¬ V.str st.w = V.str "gather" from fun z => e1 (V.str.inj z))]
      refine ⟨_, rfl, iteF ⟨_, rfl, a, _, _, _, rfl, rfl, seqt ha, atI_nat (j := 0) st.v0, rfl, ?_⟩⟩
      by_cases e2 : st.w = "op"
      · rw [if_pos e2] at hb
        rw [decide_eq_true (show V.str st.w = V.str "op" by rw [e2])]
        split at hb
        · rename_i x hx
          cases hb
          have hx' : st.v[2]? = some (.str x) := by
            unfold Sx.v
            rw [List.getElem?_map, hx]
            rfl
          refine ⟨_, rfl, iteT ⟨_, rfl, a, _, _, _, rfl, rfl, seqt ha, atI_nat (j := 2) hx', (by show 2 ≤ sizeLine; decide), fun q hq => ?_⟩⟩
          exact ⟨q, _, rfl, .inr (seqt upd_same), rfl, rfl, k _ (same_new hq)⟩
        · cases hb
      · rw [if_neg e2] at hb
        cases hb
        rw [decide_eq_false (show ¬ V.str st.w = V.str "op" from fun z => e2 (V.str.inj z))]
        exact ⟨_, rfl, iteF (k _ (Same.refl _))⟩
theorem sc_seat_places : FnScope ["step", "word"] ["step"] (defScope s_seat_places) := ⟨rfl, rfl, rfl, by decide +kernel, rfl, by decide +kernel, by decide +kernel⟩
theorem bi_seat_places {K : PySem.W.Frag} {f : Addr} {fd : FuncData} (F : FunD K "seat_places" "seat_places" (defArgs s_seat_places) (defBody s_seat_places) (defScope s_seat_places) [] [] f fd) : Binds K fd ["step"] [] := F.bindsN fun _ _ _ _ _ _ us hl => match us, hl with | [_], _ => rfl
theorem ok_seat_places (T : Tx K mg) : Gd P w K mg base CX0 1 (He.fAd K ("seat_places", none)) ["step"] [] (spPlaces seatAts) := by
  refine gd_mk T.d_seat_places sc_seat_places (fun F => bn (bi_seat_places F)) (fun vs H Q E h => ?_) (fun cdv A outer s H vs Q E hr h => ?_)
  · obtain ⟨_, _, rfl, _⟩ := h
    rfl
  · obtain ⟨a, st, rfl, ha, k⟩ := h
    refine ⟨_, (pss_cons (ps_set (i := 1) sc_seat_places.nd rfl (Or.inl rfl) (pe_ix ix_tup (pv 0) pe_int (fun _ _ => rfl)))
  (pss_cons (ps_if (pt_cmpR op_in_seq (pv 1) (pe_tup (pa_cons pe_str (pa_cons pe_str pa_nil))) rfl)
  (pss_one (ps_ret (pe_lst (pa_cons pe_int pa_nil))))
  pss_nil)
  (pss_cons (ps_if (pt_cmpR op_in_seq (pv 1) (pe_tup (pa_cons pe_str (pa_cons pe_str (pa_cons pe_str (pa_cons pe_str (pa_cons pe_str (pa_cons pe_str pa_nil))))))) rfl)
  (pss_one (ps_ret (pe_lst (pa_cons pe_int pa_nil))))
  pss_nil)
  (pss_cons (ps_if (pt_cmpR op_in_seq (pv 1) (pe_tup (pa_cons pe_str (pa_cons pe_str pa_nil))) rfl)
  (pss_one (ps_ret (pe_lst (pa_cons pe_int pa_nil))))
  pss_nil)
  (pss_cons (ps_if (pt_cmpR op_in_seq (pv 1) (pe_tup (pa_cons pe_str (pa_cons pe_str pa_nil))) rfl)
  (pss_one (ps_ret (pe_lst (pa_cons pe_int (pa_cons pe_int pa_nil)))))
  pss_nil)
  (pss_cons (ps_if (pt_cmpR op_eq (pv 1) pe_str (nomark _))
  (pss_one (ps_ret (pe_lst (pa_cons pe_int (pa_cons pe_int pa_nil)))))
  pss_nil)
  (pss_one (ps_ret (pe_lst pa_nil))))))))), ?_⟩
    unfold seatAts at k
    refine ⟨_, rfl, a, _, _, _, rfl, rfl, seqt ha, atI_nat (j := 0) st.v0, ?_⟩
    refine ⟨_, rfl, (by show 2 ≤ sizeLine; decide), fun q0 hq0 => ?_⟩
    refine ⟨q0, _, rfl, .inr (seqt upd_same), rfl, rfl, _, rfl, ?_⟩
    have s0 : Same H _ := same_new (o := .tup [.str "reach", .str "any"]) hq0
    show ite (wIn st.w ["reach", "any"] = true) _ _
    by_cases e0 : wIn st.w ["reach", "any"] = true
    · rw [if_pos e0] at k ⊢
      exact ⟨(by show 1 ≤ sizeLine; decide), fun z hz => k z _ (s0.free hz) (s0.trans (same_new hz)) upd_same⟩
    rw [if_neg e0] at k ⊢
    refine ⟨_, rfl, (by show 6 ≤ sizeLine; decide), fun q1 hq1 => ?_⟩
    refine ⟨q1, _, rfl, .inr (seqt upd_same), rfl, rfl, _, rfl, ?_⟩
    have s1 := s0.trans (same_new (o := .tup [.str "gather", .str "copy", .str "save", .str "choose", .str "other", .str "store"]) hq1)
    show ite (wIn st.w ["gather", "copy", "save", "choose", "other", "store"] = true) _ _
    by_cases e1 : wIn st.w ["gather", "copy", "save", "choose", "other", "store"] = true
    · rw [if_pos e1] at k ⊢
      exact ⟨(by show 1 ≤ sizeLine; decide), fun z hz => k z _ (s1.free hz) (s1.trans (same_new hz)) upd_same⟩
    rw [if_neg e1] at k ⊢
    refine ⟨_, rfl, (by show 2 ≤ sizeLine; decide), fun q2 hq2 => ?_⟩
    refine ⟨q2, _, rfl, .inr (seqt upd_same), rfl, rfl, _, rfl, ?_⟩
    have s2 := s1.trans (same_new (o := .tup [.str "fold", .str "running"]) hq2)
    show ite (wIn st.w ["fold", "running"] = true) _ _
    by_cases e2 : wIn st.w ["fold", "running"] = true
    · rw [if_pos e2] at k ⊢
      exact ⟨(by show 1 ≤ sizeLine; decide), fun z hz => k z _ (s2.free hz) (s2.trans (same_new hz)) upd_same⟩
    rw [if_neg e2] at k ⊢
    refine ⟨_, rfl, (by show 2 ≤ sizeLine; decide), fun q3 hq3 => ?_⟩
    refine ⟨q3, _, rfl, .inr (seqt upd_same), rfl, rfl, _, rfl, ?_⟩
    have s3 := s2.trans (same_new (o := .tup [.str "pick", .str "put"]) hq3)
    show ite (wIn st.w ["pick", "put"] = true) _ _
    by_cases e3 : wIn st.w ["pick", "put"] = true
    · rw [if_pos e3] at k ⊢
      exact ⟨(by show 2 ≤ sizeLine; decide), fun z hz => k z _ (s3.free hz) (s3.trans (same_new hz)) upd_same⟩
    rw [if_neg e3] at k ⊢
    refine ⟨_, rfl, rfl, _, rfl, ?_⟩
    by_cases e9 : st.w = "op"
    · rw [if_pos e9] at k
      rw [decide_eq_true (show V.str st.w = V.str "op" by rw [e9])]
      exact iteT ⟨(by show 2 ≤ sizeLine; decide), fun z hz => k z _ (s3.free hz) (s3.trans (same_new hz)) upd_same⟩
    rw [if_neg e9] at k
    rw [decide_eq_false (show ¬ V.str st.w = V.str "op" from fun z => e9 (V.str.inj z))]
    exact iteF ⟨(by show 0 ≤ sizeLine; decide), fun z hz => k z _ (s3.free hz) (s3.trans (same_new hz)) upd_same⟩
theorem sc_mask_places : FnScope ["step", "word"] ["step"] (defScope s_mask_places) := ⟨rfl, rfl, rfl, by decide +kernel, rfl, by decide +kernel, by decide +kernel⟩
theorem bi_mask_places {K : PySem.W.Frag} {f : Addr} {fd : FuncData} (F : FunD K "mask_places" "mask_places" (defArgs s_mask_places) (defBody s_mask_places) (defScope s_mask_places) [] [] f fd) : Binds K fd ["step"] [] := F.bindsN fun _ _ _ _ _ _ us hl => match us, hl with | [_], _ => rfl
theorem ok_mask_places (T : Tx K mg) : Gd P w K mg base CX0 1 (He.fAd K ("mask_places", none)) ["step"] [] (spPlaces maskAts) := by
  refine gd_mk T.d_mask_places sc_mask_places (fun F => bn (bi_mask_places F)) (fun vs H Q E h => ?_) (fun cdv A outer s H vs Q E hr h => ?_)
  · obtain ⟨_, _, rfl, _⟩ := h
    rfl
  · obtain ⟨a, st, rfl, ha, k⟩ := h
    refine ⟨_, (pss_cons (ps_set (i := 1) sc_mask_places.nd rfl (Or.inl rfl) (pe_ix ix_tup (pv 0) pe_int (fun _ _ => rfl)))
  (pss_cons (ps_if (pt_cmpR op_in_seq (pv 1) (pe_tup (pa_cons pe_str (pa_cons pe_str (pa_cons pe_str (pa_cons pe_str (pa_cons pe_str (pa_cons pe_str (pa_cons pe_str pa_nil)))))))) rfl)
  (pss_one (ps_ret (pe_lst pa_nil)))
  pss_nil)
  (pss_cons (ps_if (pt_cmpR op_eq (pv 1) pe_str (nomark _))
  (pss_one (ps_ret (pe_lst (pa_cons pe_int (pa_cons pe_int pa_nil)))))
  pss_nil)
  (pss_one (ps_ret (pe_lst (pa_cons (pe_op op_sub (pe_callB call_len_seq (by rfl) T.b_len boot_len (pa_cons (pv 0) pa_nil)) pe_int) pa_nil))))))), ?_⟩
    unfold maskAts at k
    refine ⟨_, rfl, a, _, _, _, rfl, rfl, seqt ha, atI_nat (j := 0) st.v0, ?_⟩
    refine ⟨_, rfl, (by show 7 ≤ sizeLine; decide), fun q0 hq0 => ?_⟩
    refine ⟨q0, _, rfl, .inr (seqt upd_same), rfl, rfl, _, rfl, ?_⟩
    have s0 : Same H _ := same_new (o := .tup [.str "begin", .str "next", .str "trim", .str "stop", .str "turns", .str "quiet", .str "till"]) hq0
    show ite (wIn st.w ["begin", "next", "trim", "stop", "turns", "quiet", "till"] = true) _ _
    by_cases e0 : wIn st.w ["begin", "next", "trim", "stop", "turns", "quiet", "till"] = true
    · rw [if_pos e0] at k ⊢
      exact ⟨(by show 0 ≤ sizeLine; decide), fun z hz => k z _ (s0.free hz) (s0.trans (same_new hz)) upd_same⟩
    rw [if_neg e0] at k ⊢
    refine ⟨_, rfl, rfl, _, rfl, ?_⟩
    by_cases e9 : st.w = "pick"
    · rw [if_pos e9] at k
      rw [decide_eq_true (show V.str st.w = V.str "pick" by rw [e9])]
      exact iteT ⟨(by show 2 ≤ sizeLine; decide), fun z hz => k z _ (s0.free hz) (s0.trans (same_new hz)) upd_same⟩
    rw [if_neg e9] at k
    rw [decide_eq_false (show ¬ V.str st.w = V.str "pick" from fun z => e9 (V.str.inj z))]
    refine iteF ⟨_, rfl, a, st.v, rfl, .inr (seqt (s0 _ _ ha)), _, _, rfl, rfl, (by show 1 ≤ sizeLine; decide), fun z hz => k z _ (s0.free hz) (s0.trans (same_new hz)) ?_⟩
    rw [upd_same]
    have e : ((st.v.length : Nat) : Int) - 1 = (st.r.length : Nat) := by
      unfold Sx.v Sx.k
      rw [List.length_map, List.length_cons]
      omega
    show some (HO.lst [V.int (((st.v.length : Nat) : Int) - 1)]) = _
    rw [e]
    rfl
end
end Rb
set_option Elab.async false
set_option linter.all false
set_option maxRecDepth 100000
set_option maxHeartbeats 4000000
/-! the shortener: what is known -/
namespace Rb
open PySem PySem.Spec PyProof.Rows L2
theorem pe_fldB {X : Cx} {K0 : PySem.W.Frag} {e : Expr} {ta : TE} {f : Str} {pos : Pos} (hK : X.K = K0) (he : PE X e ta) (hb : attributeBase e f X.env (eval e X.env) = eval e X.env) : PE X (.Attribute e f pos) (tFld K0 ta f) := by
  subst hK
  exact pe_fld he hb
structure HS where
  seats : List (L2.Key × V)
  masks : List (L2.Key × V)
  slots : List (L2.Key × V)
  things : List (List L2.Key × V)
  roots : List V
  written : List (L2.Key × V)
  age : Int
structure HL where
  kn : Addr
  dx : Addr
  se : Addr
  ma : Addr
  sl : Addr
  th : Addr
  ro : Addr
  wr : Addr
def HL.own (L : HL) (a : Addr) : Prop := a = L.kn ∨ a = L.se ∨ a = L.ma ∨ a = L.sl ∨ a = L.th ∨ a = L.ro ∨ a = L.wr
structure HoldAt (K : PySem.W.Frag) (L : HL) (S : HS) (H : Hp) : Prop where
  ko : H L.kn = some (.ins (C_Holdings K) L.dx (F_Holdings (.ref L.se) (.ref L.ma) (.ref L.sl) (.ref L.th) (.ref L.ro) (.ref L.wr) (.int S.age)))
  seo : H L.se = some (.dK S.seats)
  mao : H L.ma = some (.dK S.masks)
  slo : H L.sl = some (.dK S.slots)
  tho : H L.th = some (.dT S.things)
  roo : H L.ro = some (.lst S.roots)
  wro : H L.wr = some (.dK S.written)
  n1 : L.se ≠ L.ma
  n2 : L.se ≠ L.sl
  n3 : L.se ≠ L.wr
  n4 : L.ma ≠ L.sl
  n5 : L.ma ≠ L.wr
  n6 : L.sl ≠ L.wr
section
variable {K : PySem.W.Frag} {L : HL} {S : HS} {H : Hp}
theorem upa {a b : Addr} {o u : HO} (h : a ≠ b) (e : H a = some u) : upd H b o a = some u := (upd_ne h).trans e
theorem HoldAt.setSeats (A : HoldAt K L S H) (x : List (L2.Key × V)) : HoldAt K L { S with seats := x } (upd H L.se (.dK x)) :=
  { A with
    ko := upa (ne_of A.ko A.seo (by intro z; cases z)) A.ko
    seo := upd_same
    mao := upa A.n1.symm A.mao
    slo := upa A.n2.symm A.slo
    tho := upa (ne_of A.tho A.seo (by intro z; cases z)) A.tho
    roo := upa (ne_of A.roo A.seo (by intro z; cases z)) A.roo
    wro := upa A.n3.symm A.wro }
theorem HoldAt.setMasks (A : HoldAt K L S H) (x : List (L2.Key × V)) : HoldAt K L { S with masks := x } (upd H L.ma (.dK x)) :=
  { A with
    ko := upa (ne_of A.ko A.mao (by intro z; cases z)) A.ko
    seo := upa A.n1 A.seo
    mao := upd_same
    slo := upa A.n4.symm A.slo
    tho := upa (ne_of A.tho A.mao (by intro z; cases z)) A.tho
    roo := upa (ne_of A.roo A.mao (by intro z; cases z)) A.roo
    wro := upa A.n5.symm A.wro }
theorem HoldAt.setSlots (A : HoldAt K L S H) (x : List (L2.Key × V)) : HoldAt K L { S with slots := x } (upd H L.sl (.dK x)) :=
  { A with
    ko := upa (ne_of A.ko A.slo (by intro z; cases z)) A.ko
    seo := upa A.n2 A.seo
    mao := upa A.n4 A.mao
    slo := upd_same
    tho := upa (ne_of A.tho A.slo (by intro z; cases z)) A.tho
    roo := upa (ne_of A.roo A.slo (by intro z; cases z)) A.roo
    wro := upa A.n6.symm A.wro }
theorem HoldAt.setWritten (A : HoldAt K L S H) (x : List (L2.Key × V)) : HoldAt K L { S with written := x } (upd H L.wr (.dK x)) :=
  { A with
    ko := upa (ne_of A.ko A.wro (by intro z; cases z)) A.ko
    seo := upa A.n3 A.seo
    mao := upa A.n5 A.mao
    slo := upa A.n6 A.slo
    tho := upa (ne_of A.tho A.wro (by intro z; cases z)) A.tho
    roo := upa (ne_of A.roo A.wro (by intro z; cases z)) A.roo
    wro := upd_same }
theorem HoldAt.setThings (A : HoldAt K L S H) (x : List (List L2.Key × V)) : HoldAt K L { S with things := x } (upd H L.th (.dT x)) :=
  { A with
    ko := upa (ne_of A.ko A.tho (by intro z; cases z)) A.ko
    seo := upa (ne_of A.seo A.tho (by intro z; cases z)) A.seo
    mao := upa (ne_of A.mao A.tho (by intro z; cases z)) A.mao
    slo := upa (ne_of A.slo A.tho (by intro z; cases z)) A.slo
    tho := upd_same
    roo := upa (ne_of A.roo A.tho (by intro z; cases z)) A.roo
    wro := upa (ne_of A.wro A.tho (by intro z; cases z)) A.wro }
theorem HoldAt.setRoots (A : HoldAt K L S H) (x : List V) : HoldAt K L { S with roots := x } (upd H L.ro (.lst x)) :=
  { A with
    ko := upa (ne_of A.ko A.roo (by intro z; cases z)) A.ko
    seo := upa (ne_of A.seo A.roo (by intro z; cases z)) A.seo
    mao := upa (ne_of A.mao A.roo (by intro z; cases z)) A.mao
    slo := upa (ne_of A.slo A.roo (by intro z; cases z)) A.slo
    tho := upa (ne_of A.tho A.roo (by intro z; cases z)) A.tho
    roo := upd_same
    wro := upa (ne_of A.wro A.roo (by intro z; cases z)) A.wro }
theorem HoldAt.setAge (A : HoldAt K L S H) (x : Int) : HoldAt K L { S with age := x } (upd H L.kn (.ins (C_Holdings K) L.dx (F_Holdings (.ref L.se) (.ref L.ma) (.ref L.sl) (.ref L.th) (.ref L.ro) (.ref L.wr) (.int x)))) :=
  { A with
    ko := upd_same
    seo := upa (ne_of A.seo A.ko (by intro z; cases z)) A.seo
    mao := upa (ne_of A.mao A.ko (by intro z; cases z)) A.mao
    slo := upa (ne_of A.slo A.ko (by intro z; cases z)) A.slo
    tho := upa (ne_of A.tho A.ko (by intro z; cases z)) A.tho
    roo := upa (ne_of A.roo A.ko (by intro z; cases z)) A.roo
    wro := upa (ne_of A.wro A.ko (by intro z; cases z)) A.wro }
theorem HoldAt.same {H' : Hp} (A : HoldAt K L S H) (e : Same H H') : HoldAt K L S H' := { A with ko := e _ _ A.ko, seo := e _ _ A.seo, mao := e _ _ A.mao, slo := e _ _ A.slo, tho := e _ _ A.tho, roo := e _ _ A.roo, wro := e _ _ A.wro }
theorem HoldAt.notTup (A : HoldAt K L S H) {a : Addr} {xs : List V} (h : H a = some (.tup xs)) : ¬ L.own a := by
  rintro (e | e | e | e | e | e | e) <;> rw [e] at h
  · rw [A.ko] at h; cases h
  · rw [A.seo] at h; cases h
  · rw [A.mao] at h; cases h
  · rw [A.slo] at h; cases h
  · rw [A.tho] at h; cases h
  · rw [A.roo] at h; cases h
  · rw [A.wro] at h; cases h
theorem HoldAt.notNone (A : HoldAt K L S H) {a : Addr} (h : H a = none) : ¬ L.own a := by
  rintro (e | e | e | e | e | e | e) <;> rw [e] at h
  · rw [A.ko] at h; cases h
  · rw [A.seo] at h; cases h
  · rw [A.mao] at h; cases h
  · rw [A.slo] at h; cases h
  · rw [A.tho] at h; cases h
  · rw [A.roo] at h; cases h
  · rw [A.wro] at h; cases h
end
/-- all but the holdings stays -/
def FrH (L : HL) (H H' : Hp) : Prop := ∀ a o, H a = some o → ¬ L.own a → H' a = some o
theorem FrH.refl (L : HL) (H : Hp) : FrH L H H := fun _ _ h _ => h
theorem FrH.trans {L : HL} {H H1 H2 : Hp} (a : FrH L H H1) (b : FrH L H1 H2) : FrH L H H2 := fun x o h n => b x o (a x o h n) n
theorem FrH.of_same {L : HL} {H H' : Hp} (e : Same H H') : FrH L H H' := fun a o h _ => e a o h
theorem FrH.put {L : HL} {H : Hp} {b : Addr} {o : HO} (h : L.own b) : FrH L H (upd H b o) := fun a u e n => by
  rw [upd_ne fun z => n (by rw [z]; exact h)]
  exact e
def atV (xs : List V) : V → Option V
  | .int t => if 0 ≤ t then xs[t.toNat]? else none
  | _ => none
theorem atV_at {xs : List V} {v x : V} (h : atV xs v = some x) : ∃ t : Nat, v = .int t ∧ xs[t]? = some x := by
  cases v with
  | int t =>
    by_cases h0 : 0 ≤ t
    · have h2 : (if 0 ≤ t then xs[t.toNat]? else none) = some x := h
      rw [if_pos h0] at h2
      exact ⟨t.toNat, by rw [Int.toNat_of_nonneg h0], h2⟩
    · have h2 : (if 0 ≤ t then xs[t.toNat]? else none) = some x := h
      rw [if_neg h0] at h2
      cases h2
  | _ => cases h
def thingOf (S : HS) (k : List L2.Key) : Option (HS × V) := match valV S.things k with
  | some v => some (S, v)
  | none => if S.things.length < 500 ∧ S.roots.length < 500 then some ({ S with things := putK S.things k (.int S.roots.length), roots := S.roots ++ [.int S.roots.length] }, .int S.roots.length) else none
def seatThing (S : HS) (i : Int) : Option (HS × V) := match valV S.seats (Sum.inl i : L2.Key) with
  | some v => some (S, v)
  | none => (thingOf S [Sum.inr "seat", Sum.inl i]).bind fun q => if q.1.seats.length < 500 then some ({ q.1 with seats := putK q.1.seats (Sum.inl i) q.2 }, q.2) else none
def maskThing (S : HS) (i : Int) : Option (HS × V) := match valV S.masks (Sum.inl i : L2.Key) with
  | some v => some (S, v)
  | none => (thingOf S [Sum.inr "mask", Sum.inl i]).bind fun q => if q.1.masks.length < 500 then some ({ q.1 with masks := putK q.1.masks (Sum.inl i) q.2 }, q.2) else none
def slotThing (S : HS) (i : Int) : Option (HS × V) := match valV S.slots (Sum.inl i : L2.Key) with
  | some v => some (S, v)
  | none => (thingOf S [Sum.inr "slot", Sum.inl i]).bind fun q => if q.1.slots.length < 500 then some ({ q.1 with slots := putK q.1.slots (Sum.inl i) q.2 }, q.2) else none
def rootAt (S : HS) (i : Int) : Option (HS × V) := (seatThing S i).bind fun q => (atV q.1.roots q.2).map fun x => (q.1, x)
def getN (m : List (L2.Key × V)) (x : Nat) : V := (valV m (Sum.inl (x : Int) : L2.Key)).getD .non
def okS (m : List (L2.Key × V)) (n : Nat) (v : V) : Bool := (List.range n).all fun x => scal (getN m x) v
def eqs (m : List (L2.Key × V)) (n : Nat) (v : V) : List Nat := (List.range n).filter fun x => decide (getN m x = v)
def bestSeat (S : HS) (i : Int) : Option (HS × Int) := (seatThing S i).bind fun q => (atV q.1.roots q.2).bind fun root =>
  if okS q.1.seats 8 root = true then (match eqs q.1.seats 8 root with
    | x :: _ => some (q.1, (x : Int))
    | [] => if okS q.1.seats 8 q.2 = true then (match eqs q.1.seats 8 q.2 with
      | x :: _ => some (q.1, (x : Int))
      | [] => none) else none) else none
def bestMask (S : HS) (i : Int) : Option (HS × Int) := (maskThing S i).bind fun q =>
  if okS q.1.masks 16 q.2 = true then (match eqs q.1.masks 16 q.2 with
    | x :: _ => some (q.1, (x : Int))
    | [] => none) else none
def HS0 : HS := ⟨[], [(Sum.inl 0, .int 0)], [], [], [.int 0], [], 0⟩
def spHoldInit (K : PySem.W.Frag) : Sp := fun vs H Q _ => ∃ (p dx : Addr), vs = [.ref p] ∧ H p = some (.ins (C_Holdings K) dx []) ∧
  ∀ L H', L.kn = p → HoldAt K L HS0 H' → (∀ a, L.own a → a = p ∨ H a = none) → (∀ a o, H a = some o → a ≠ p → H' a = some o) → Q .non H'
def spThing (K : PySem.W.Frag) : Sp := fun vs H Q _ => ∃ (L : HL) (S S' : HS) (b : Addr) (k : List L2.Key) (v : V), vs = [.ref L.kn, .ref b] ∧ HoldAt K L S H ∧ H b = some (.tup (k.map kV)) ∧ thingOf S k = some (S', v) ∧ ∀ H', HoldAt K L S' H' → FrH L H H' → Q v H'
def spFind (K : PySem.W.Frag) (f : HS → Int → Option (HS × V)) : Sp := fun vs H Q _ => ∃ (L : HL) (S S' : HS) (i : Int) (v : V), vs = [.ref L.kn, .int i] ∧ HoldAt K L S H ∧ f S i = some (S', v) ∧ ∀ H', HoldAt K L S' H' → FrH L H H' → Q v H'
section
variable {P : Program} {w : World} {K : PySem.W.Frag} {mg : Str → Option Value} {base : Heap}
theorem sc_Holdings_thing_of : FnScope ["self", "key"] ["self", "key"] (defScope s_Holdings_thing_of) := ⟨rfl, rfl, rfl, by decide +kernel, rfl, by decide +kernel, by decide +kernel⟩
theorem bi_Holdings_thing_of {K : PySem.W.Frag} {f : Addr} {fd : FuncData} (F : FunD K "thing_of" "Holdings.thing_of" (defArgs s_Holdings_thing_of) (defBody s_Holdings_thing_of) (defScope s_Holdings_thing_of) [] [] f fd) : Binds K fd ["self", "key"] [] := F.bindsN fun _ _ _ _ _ _ us hl => match us, hl with | [_, _], _ => rfl
theorem ok_Holdings_thing_of (T : Tx K mg) : Gd P w K mg base CX0 1 (He.fAd K ("Holdings", some "thing_of")) ["self", "key"] [] (spThing K) := by
  refine gd_mk T.d_Holdings_thing_of sc_Holdings_thing_of (fun F => bn (bi_Holdings_thing_of F)) (fun vs H Q E h => ?_) (fun cdv A outer s H vs Q E hr h => ?_)
  · obtain ⟨_, _, _, _, _, _, rfl, _⟩ := h
    rfl
  · obtain ⟨L, S, S', b, key, v, rfl, B, hb, e, k⟩ := h
    have hu := hu_of hr
    refine ⟨_, (pss_cons (ps_if (pt_cmp (pc_dnotin hu (pv 1) (pe_fld (pv 0) rfl)))
  (pss_cons (ps_dput hu (pe_fld (pv 0) rfl) (pv 1) (pe_callB call_len_seq (by rfl) T.b_len boot_len (pa_cons (pe_fld (pv 0) rfl) pa_nil)) rfl)
  (pss_one (ps_expr (pe_bm PySem.F.plainAttrs_list PySem.F.slot_list_append PySem.F.type_list_append mt_append (pe_fld (pv 0) rfl) (pa_cons (pe_callB call_len_seq (by rfl) T.b_len boot_len (pa_cons (pe_fld (pv 0) rfl) pa_nil)) pa_nil)))))
  pss_nil)
  (pss_one (ps_ret (pe_dget hu (pe_fld (pv 0) rfl) (pv 1) (fun _ _ => rfl))))), ?_⟩
    unfold thingOf at e
    refine ⟨_, rfl, _, rfl, _, _, _, _, _, rfl, B.ko, T.c_Holdings, T.n_Holdings_things, L_Holdings_things, L.th, _, rfl, .t B.tho hb, _, rfl, ?_⟩
    split at e
    · rename_i v0 hv
      cases e
      rw [hv]
      exact iteF ⟨_, rfl, _, _, _, _, _, rfl, B.ko, T.c_Holdings, T.n_Holdings_things, L_Holdings_things, _, rfl, L.th, _, rfl, hv ▸ .t B.tho hb, k H B (FrH.refl L H)⟩
    · rename_i hv
      split at e
      rotate_left
      · cases e
      rename_i hz
      cases e
      rw [hv]
      have hz1 : S.things.length < sizeLine := Nat.lt_of_lt_of_le hz.1 (by rw [sizeLine_eq]; decide)
      have hz2 : S.roots.length < sizeLine := Nat.lt_of_lt_of_le hz.2 (by rw [sizeLine_eq]; decide)
      have B1 := B.setThings (putK S.things key (.int S.roots.length))
      have B2 := B1.setRoots (S.roots ++ [.int S.roots.length])
      have f1 : FrH L H _ := FrH.put (b := L.th) (o := .dT (putK S.things key (.int S.roots.length))) (.inr (.inr (.inr (.inr (.inl rfl)))))
      have f2 := f1.trans (FrH.put (b := L.ro) (o := .lst (S.roots ++ [.int S.roots.length])) (.inr (.inr (.inr (.inr (.inr (.inl rfl)))))))
      have hb2 := f2 b _ hb (B.notTup hb)
      refine iteT ⟨_, rfl, _, _, _, _, _, rfl, B.ko, T.c_Holdings, T.n_Holdings_roots, L_Holdings_roots, L.ro, S.roots, rfl, .inl (seql B.roo), _, rfl, _, _, _, _, _, rfl, B.ko, T.c_Holdings, T.n_Holdings_things, L_Holdings_things, _, rfl, L.th, _, rfl, .t B.tho hb hz1, ?_⟩
      refine ⟨_, rfl, _, _, _, _, _, rfl, B1.ko, T.c_Holdings, T.n_Holdings_roots, L_Holdings_roots, .inl ⟨rfl, _, .inl (.inl B1.roo)⟩, _, rfl, _, _, _, _, _, rfl, B1.ko, T.c_Holdings, T.n_Holdings_roots, L_Holdings_roots, L.ro, _, rfl, .inl (seql B1.roo), L.ro, _, _, rfl, rfl, B1.roo, hz2, ?_⟩
      refine ⟨_, rfl, _, _, _, _, _, rfl, B2.ko, T.c_Holdings, T.n_Holdings_things, L_Holdings_things, _, rfl, L.th, _, rfl, ?_, k _ B2 f2⟩
      have hg := DGet.t B2.tho hb2
      have e2 : valV (putK S.things key (.int S.roots.length)) key = some (.int S.roots.length) := by rw [valV_put, if_pos rfl]
      rw [← e2]
      exact hg
theorem sc_Holdings_seat_thing : FnScope ["self", "seat"] ["self", "seat"] (defScope s_Holdings_seat_thing) := ⟨rfl, rfl, rfl, by decide +kernel, rfl, by decide +kernel, by decide +kernel⟩
theorem bi_Holdings_seat_thing {K : PySem.W.Frag} {f : Addr} {fd : FuncData} (F : FunD K "seat_thing" "Holdings.seat_thing" (defArgs s_Holdings_seat_thing) (defBody s_Holdings_seat_thing) (defScope s_Holdings_seat_thing) [] [] f fd) : Binds K fd ["self", "seat"] [] := F.bindsN fun _ _ _ _ _ _ us hl => match us, hl with | [_, _], _ => rfl
theorem ok_Holdings_seat_thing (T : Tx K mg) : Gd P w K mg base CX0 2 (He.fAd K ("Holdings", some "seat_thing")) ["self", "seat"] [] (spFind K seatThing) := by
  obtain ⟨fd_Holdings_thing_of, G_Holdings_thing_of, p_Holdings_thing_of, ds_Holdings_thing_of, v_Holdings_thing_of, b_Holdings_thing_of⟩ := ok_Holdings_thing_of (P := P) (w := w) (base := base) T
  refine gd_mk T.d_Holdings_seat_thing sc_Holdings_seat_thing (fun F => bn (bi_Holdings_seat_thing F)) (fun vs H Q E h => ?_) (fun cdv A outer s H vs Q E hr h => ?_)
  · obtain ⟨_, _, _, _, _, rfl, _⟩ := h
    rfl
  · obtain ⟨L, S, S', x, v, rfl, B, e, k⟩ := h
    have hu := hu_of hr
    refine ⟨_, (pss_cons (ps_if (pt_cmp (pc_dnotin hu (pv 1) (pe_fld (pv 0) rfl)))
  (pss_one (ps_dput hu (pe_fld (pv 0) rfl) (pv 1) (pe_meth (pv 0) T.c_Holdings T.m_Holdings_thing_of G_Holdings_thing_of (hr.mono (by decide)) b_Holdings_thing_of v_Holdings_thing_of pass0 (pa_cons (pe_tup (pa_cons pe_str (pa_cons (pv 1) pa_nil))) pa_nil)) rfl))
  pss_nil)
  (pss_one (ps_ret (pe_dget hu (pe_fld (pv 0) rfl) (pv 1) (fun _ _ => rfl))))), ?_⟩
    unfold seatThing at e
    refine ⟨_, rfl, _, rfl, _, _, _, _, _, rfl, B.ko, T.c_Holdings, T.n_Holdings_seats, L_Holdings_seats, L.se, _, rfl, .k (k := Sum.inl x) B.seo, _, rfl, ?_⟩
    split at e
    · rename_i v0 hv
      cases e
      rw [hv]
      exact iteF ⟨_, rfl, _, _, _, _, _, rfl, B.ko, T.c_Holdings, T.n_Holdings_seats, L_Holdings_seats, _, rfl, L.se, _, rfl, hv ▸ .k (k := Sum.inl x) B.seo, k H B (FrH.refl L H)⟩
    · rename_i hv
      obtain ⟨⟨S1, v1⟩, e1, e2⟩ := Option.bind_eq_some_iff.mp e
      by_cases hz : S1.seats.length < 500
      rotate_left
      · rw [if_neg hz] at e2
        cases e2
      rw [if_pos hz] at e2
      cases e2
      rw [hv]
      have hz1 : S1.seats.length < sizeLine := Nat.lt_of_lt_of_le hz (by rw [sizeLine_eq]; decide)
      refine iteT ⟨_, rfl, _, _, _, rfl, B.ko, rfl, _, rfl, (by show 2 ≤ sizeLine; decide), fun q hq => ?_⟩
      refine ⟨L, S, S1, q, _, v1, rfl, B.same (same_new hq), upd_same, e1, fun H1 B1 f1 => ?_⟩
      refine ⟨_, rfl, _, _, _, _, _, rfl, B1.ko, T.c_Holdings, T.n_Holdings_seats, L_Holdings_seats, _, rfl, L.se, _, rfl, .k (k := Sum.inl x) B1.seo hz1, ?_⟩
      have B2 := B1.setSeats (putK S1.seats (Sum.inl x) v1)
      refine ⟨_, rfl, _, _, _, _, _, rfl, B2.ko, T.c_Holdings, T.n_Holdings_seats, L_Holdings_seats, _, rfl, L.se, _, rfl, ?_, k _ B2 (((FrH.of_same (same_new hq)).trans f1).trans (FrH.put (.inr (.inl rfl))))⟩
      have hg := DGet.k (k := Sum.inl x) B2.seo
      have e2 : valV (putK S1.seats (Sum.inl x) v1) (Sum.inl x) = some v1 := by rw [valV_put, if_pos rfl]
      rw [← e2]
      exact hg
theorem sc_Holdings_mask_thing : FnScope ["self", "mask"] ["self", "mask"] (defScope s_Holdings_mask_thing) := ⟨rfl, rfl, rfl, by decide +kernel, rfl, by decide +kernel, by decide +kernel⟩
theorem bi_Holdings_mask_thing {K : PySem.W.Frag} {f : Addr} {fd : FuncData} (F : FunD K "mask_thing" "Holdings.mask_thing" (defArgs s_Holdings_mask_thing) (defBody s_Holdings_mask_thing) (defScope s_Holdings_mask_thing) [] [] f fd) : Binds K fd ["self", "mask"] [] := F.bindsN fun _ _ _ _ _ _ us hl => match us, hl with | [_, _], _ => rfl
theorem ok_Holdings_mask_thing (T : Tx K mg) : Gd P w K mg base CX0 2 (He.fAd K ("Holdings", some "mask_thing")) ["self", "mask"] [] (spFind K maskThing) := by
  obtain ⟨fd_Holdings_thing_of, G_Holdings_thing_of, p_Holdings_thing_of, ds_Holdings_thing_of, v_Holdings_thing_of, b_Holdings_thing_of⟩ := ok_Holdings_thing_of (P := P) (w := w) (base := base) T
  refine gd_mk T.d_Holdings_mask_thing sc_Holdings_mask_thing (fun F => bn (bi_Holdings_mask_thing F)) (fun vs H Q E h => ?_) (fun cdv A outer s H vs Q E hr h => ?_)
  · obtain ⟨_, _, _, _, _, rfl, _⟩ := h
    rfl
  · obtain ⟨L, S, S', x, v, rfl, B, e, k⟩ := h
    have hu := hu_of hr
    refine ⟨_, (pss_cons (ps_if (pt_cmp (pc_dnotin hu (pv 1) (pe_fld (pv 0) rfl)))
  (pss_one (ps_dput hu (pe_fld (pv 0) rfl) (pv 1) (pe_meth (pv 0) T.c_Holdings T.m_Holdings_thing_of G_Holdings_thing_of (hr.mono (by decide)) b_Holdings_thing_of v_Holdings_thing_of pass0 (pa_cons (pe_tup (pa_cons pe_str (pa_cons (pv 1) pa_nil))) pa_nil)) rfl))
  pss_nil)
  (pss_one (ps_ret (pe_dget hu (pe_fld (pv 0) rfl) (pv 1) (fun _ _ => rfl))))), ?_⟩
    unfold maskThing at e
    refine ⟨_, rfl, _, rfl, _, _, _, _, _, rfl, B.ko, T.c_Holdings, T.n_Holdings_masks, L_Holdings_masks, L.ma, _, rfl, .k (k := Sum.inl x) B.mao, _, rfl, ?_⟩
    split at e
    · rename_i v0 hv
      cases e
      rw [hv]
      exact iteF ⟨_, rfl, _, _, _, _, _, rfl, B.ko, T.c_Holdings, T.n_Holdings_masks, L_Holdings_masks, _, rfl, L.ma, _, rfl, hv ▸ .k (k := Sum.inl x) B.mao, k H B (FrH.refl L H)⟩
    · rename_i hv
      obtain ⟨⟨S1, v1⟩, e1, e2⟩ := Option.bind_eq_some_iff.mp e
      by_cases hz : S1.masks.length < 500
      rotate_left
      · rw [if_neg hz] at e2
        cases e2
      rw [if_pos hz] at e2
      cases e2
      rw [hv]
      have hz1 : S1.masks.length < sizeLine := Nat.lt_of_lt_of_le hz (by rw [sizeLine_eq]; decide)
      refine iteT ⟨_, rfl, _, _, _, rfl, B.ko, rfl, _, rfl, (by show 2 ≤ sizeLine; decide), fun q hq => ?_⟩
      refine ⟨L, S, S1, q, _, v1, rfl, B.same (same_new hq), upd_same, e1, fun H1 B1 f1 => ?_⟩
      refine ⟨_, rfl, _, _, _, _, _, rfl, B1.ko, T.c_Holdings, T.n_Holdings_masks, L_Holdings_masks, _, rfl, L.ma, _, rfl, .k (k := Sum.inl x) B1.mao hz1, ?_⟩
      have B2 := B1.setMasks (putK S1.masks (Sum.inl x) v1)
      refine ⟨_, rfl, _, _, _, _, _, rfl, B2.ko, T.c_Holdings, T.n_Holdings_masks, L_Holdings_masks, _, rfl, L.ma, _, rfl, ?_, k _ B2 (((FrH.of_same (same_new hq)).trans f1).trans (FrH.put (.inr (.inr (.inl rfl)))))⟩
      have hg := DGet.k (k := Sum.inl x) B2.mao
      have e2 : valV (putK S1.masks (Sum.inl x) v1) (Sum.inl x) = some v1 := by rw [valV_put, if_pos rfl]
      rw [← e2]
      exact hg
theorem sc_Holdings_slot_thing : FnScope ["self", "slot"] ["self", "slot"] (defScope s_Holdings_slot_thing) := ⟨rfl, rfl, rfl, by decide +kernel, rfl, by decide +kernel, by decide +kernel⟩
theorem bi_Holdings_slot_thing {K : PySem.W.Frag} {f : Addr} {fd : FuncData} (F : FunD K "slot_thing" "Holdings.slot_thing" (defArgs s_Holdings_slot_thing) (defBody s_Holdings_slot_thing) (defScope s_Holdings_slot_thing) [] [] f fd) : Binds K fd ["self", "slot"] [] := F.bindsN fun _ _ _ _ _ _ us hl => match us, hl with | [_, _], _ => rfl
theorem ok_Holdings_slot_thing (T : Tx K mg) : Gd P w K mg base CX0 2 (He.fAd K ("Holdings", some "slot_thing")) ["self", "slot"] [] (spFind K slotThing) := by
  obtain ⟨fd_Holdings_thing_of, G_Holdings_thing_of, p_Holdings_thing_of, ds_Holdings_thing_of, v_Holdings_thing_of, b_Holdings_thing_of⟩ := ok_Holdings_thing_of (P := P) (w := w) (base := base) T
  refine gd_mk T.d_Holdings_slot_thing sc_Holdings_slot_thing (fun F => bn (bi_Holdings_slot_thing F)) (fun vs H Q E h => ?_) (fun cdv A outer s H vs Q E hr h => ?_)
  · obtain ⟨_, _, _, _, _, rfl, _⟩ := h
    rfl
  · obtain ⟨L, S, S', x, v, rfl, B, e, k⟩ := h
    have hu := hu_of hr
    refine ⟨_, (pss_cons (ps_if (pt_cmp (pc_dnotin hu (pv 1) (pe_fld (pv 0) rfl)))
  (pss_one (ps_dput hu (pe_fld (pv 0) rfl) (pv 1) (pe_meth (pv 0) T.c_Holdings T.m_Holdings_thing_of G_Holdings_thing_of (hr.mono (by decide)) b_Holdings_thing_of v_Holdings_thing_of pass0 (pa_cons (pe_tup (pa_cons pe_str (pa_cons (pv 1) pa_nil))) pa_nil)) rfl))
  pss_nil)
  (pss_one (ps_ret (pe_dget hu (pe_fld (pv 0) rfl) (pv 1) (fun _ _ => rfl))))), ?_⟩
    unfold slotThing at e
    refine ⟨_, rfl, _, rfl, _, _, _, _, _, rfl, B.ko, T.c_Holdings, T.n_Holdings_slots, L_Holdings_slots, L.sl, _, rfl, .k (k := Sum.inl x) B.slo, _, rfl, ?_⟩
    split at e
    · rename_i v0 hv
      cases e
      rw [hv]
      exact iteF ⟨_, rfl, _, _, _, _, _, rfl, B.ko, T.c_Holdings, T.n_Holdings_slots, L_Holdings_slots, _, rfl, L.sl, _, rfl, hv ▸ .k (k := Sum.inl x) B.slo, k H B (FrH.refl L H)⟩
    · rename_i hv
      obtain ⟨⟨S1, v1⟩, e1, e2⟩ := Option.bind_eq_some_iff.mp e
      by_cases hz : S1.slots.length < 500
      rotate_left
      · rw [if_neg hz] at e2
        cases e2
      rw [if_pos hz] at e2
      cases e2
      rw [hv]
      have hz1 : S1.slots.length < sizeLine := Nat.lt_of_lt_of_le hz (by rw [sizeLine_eq]; decide)
      refine iteT ⟨_, rfl, _, _, _, rfl, B.ko, rfl, _, rfl, (by show 2 ≤ sizeLine; decide), fun q hq => ?_⟩
      refine ⟨L, S, S1, q, _, v1, rfl, B.same (same_new hq), upd_same, e1, fun H1 B1 f1 => ?_⟩
      refine ⟨_, rfl, _, _, _, _, _, rfl, B1.ko, T.c_Holdings, T.n_Holdings_slots, L_Holdings_slots, _, rfl, L.sl, _, rfl, .k (k := Sum.inl x) B1.slo hz1, ?_⟩
      have B2 := B1.setSlots (putK S1.slots (Sum.inl x) v1)
      refine ⟨_, rfl, _, _, _, _, _, rfl, B2.ko, T.c_Holdings, T.n_Holdings_slots, L_Holdings_slots, _, rfl, L.sl, _, rfl, ?_, k _ B2 (((FrH.of_same (same_new hq)).trans f1).trans (FrH.put (.inr (.inr (.inr (.inl rfl))))))⟩
      have hg := DGet.k (k := Sum.inl x) B2.slo
      have e2 : valV (putK S1.slots (Sum.inl x) v1) (Sum.inl x) = some v1 := by rw [valV_put, if_pos rfl]
      rw [← e2]
      exact hg
theorem sc_Holdings_root_at : FnScope ["self", "seat"] ["self", "seat"] (defScope s_Holdings_root_at) := ⟨rfl, rfl, rfl, by decide +kernel, rfl, by decide +kernel, by decide +kernel⟩
theorem bi_Holdings_root_at {K : PySem.W.Frag} {f : Addr} {fd : FuncData} (F : FunD K "root_at" "Holdings.root_at" (defArgs s_Holdings_root_at) (defBody s_Holdings_root_at) (defScope s_Holdings_root_at) [] [] f fd) : Binds K fd ["self", "seat"] [] := F.bindsN fun _ _ _ _ _ _ us hl => match us, hl with | [_, _], _ => rfl
theorem ok_Holdings_root_at (T : Tx K mg) : Gd P w K mg base CX0 3 (He.fAd K ("Holdings", some "root_at")) ["self", "seat"] [] (spFind K rootAt) := by
  obtain ⟨fd_Holdings_seat_thing, G_Holdings_seat_thing, p_Holdings_seat_thing, ds_Holdings_seat_thing, v_Holdings_seat_thing, b_Holdings_seat_thing⟩ := ok_Holdings_seat_thing (P := P) (w := w) (base := base) T
  refine gd_mk T.d_Holdings_root_at sc_Holdings_root_at (fun F => bn (bi_Holdings_root_at F)) (fun vs H Q E h => ?_) (fun cdv A outer s H vs Q E hr h => ?_)
  · obtain ⟨_, _, _, _, _, rfl, _⟩ := h
    rfl
  · obtain ⟨L, S, S', x, v, rfl, B, e, k⟩ := h
    refine ⟨_, (pss_one (ps_ret (pe_ix ix_list (pe_fld (pv 0) rfl) (pe_meth (pv 0) T.c_Holdings T.m_Holdings_seat_thing G_Holdings_seat_thing (hr.mono (by decide)) b_Holdings_seat_thing v_Holdings_seat_thing pass0 (pa_cons (pv 1) pa_nil)) (fun _ _ => rfl)))), ?_⟩
    obtain ⟨⟨S1, v1⟩, e1, e2⟩ := Option.bind_eq_some_iff.mp e
    obtain ⟨y, e3, e4⟩ := Option.map_eq_some_iff.mp e2
    cases e4
    obtain ⟨t, rfl, ht⟩ := atV_at e3
    refine ⟨_, rfl, _, _, _, _, _, rfl, B.ko, T.c_Holdings, T.n_Holdings_roots, L_Holdings_roots, _, rfl, _, _, _, rfl, B.ko, rfl, _, rfl, L, S, S1, x, _, rfl, B, e1, fun H1 B1 f1 => ?_⟩
    exact ⟨L.ro, _, _, _, rfl, rfl, seql B1.roo, atI_nat (j := t) ht, k H1 B1 f1⟩
theorem dp_ints {H : Hp} : ∀ l : List Int, DpAll K H (l.map V.int) (l.map PyData.int)
  | [] => .nil
  | _ :: l => .cons (.int _) (dp_ints l)
theorem lay_ints : ∀ l : List Int, PyData.canLayAll0 (l.map PyData.int) = true
  | [] => rfl
  | _ :: l => by simp only [List.map, PyData.canLayAll0, PyData.canLay0, lay_ints l, Bool.and_self]
theorem dep_ints : ∀ l : List Int, PyData.depthAll (l.map PyData.int) = 0
  | [] => by simp only [List.map, PyData.depthAll]
  | _ :: l => by simp only [List.map, PyData.depthAll, PyData.depth, dep_ints l, Nat.max_self]
theorem shp_ints (l : List Int) : SeqAt.shaped (.list (l.map PyData.int)) = true := by
  unfold SeqAt.shaped
  simp only [PyData.canLay0, lay_ints, PyData.depth, dep_ints, Bool.true_and]
  decide
def spBest (K : PySem.W.Frag) (f : HS → Int → Option (HS × Int)) : Sp := fun vs H Q _ => ∃ (L : HL) (S S' : HS) (i : Int) (v : Int), vs = [.ref L.kn, .int i] ∧ HoldAt K L S H ∧ f S i = some (S', v) ∧ ∀ H', HoldAt K L S' H' → FrH L H H' → Q (.int v) H'
theorem sc_Holdings_best_seat : FnScope ["self", "seat", "thing", "root", "same", "x"] ["self", "seat"] (defScope s_Holdings_best_seat) := ⟨rfl, rfl, rfl, by decide +kernel, rfl, by decide +kernel, by decide +kernel⟩
theorem bi_Holdings_best_seat {K : PySem.W.Frag} {f : Addr} {fd : FuncData} (F : FunD K "best_seat" "Holdings.best_seat" (defArgs s_Holdings_best_seat) (defBody s_Holdings_best_seat) (defScope s_Holdings_best_seat) [] [] f fd) : Binds K fd ["self", "seat"] [] := F.bindsN fun _ _ _ _ _ _ us hl => match us, hl with | [_, _], _ => rfl
theorem ok_Holdings_best_seat (T : Tx K mg) : Gd P w K mg base CX0 3 (He.fAd K ("Holdings", some "best_seat")) ["self", "seat"] [] (spBest K bestSeat) := by
  obtain ⟨fd_Holdings_seat_thing, G_Holdings_seat_thing, p_Holdings_seat_thing, ds_Holdings_seat_thing, v_Holdings_seat_thing, b_Holdings_seat_thing⟩ := ok_Holdings_seat_thing (P := P) (w := w) (base := base) T
  refine gd_mk T.d_Holdings_best_seat sc_Holdings_best_seat (fun F => bn (bi_Holdings_best_seat F)) (fun vs H Q E h => ?_) (fun cdv A outer s H vs Q E hr h => ?_)
  · obtain ⟨_, _, _, _, _, rfl, _⟩ := h
    rfl
  · obtain ⟨L, S, S', x, v, rfl, B, e, k⟩ := h
    have hu := hu_of hr
    refine ⟨_, (pss_cons (ps_set (i := 2) sc_Holdings_best_seat.nd rfl (Or.inr rfl) (pe_meth (pv 0) T.c_Holdings T.m_Holdings_seat_thing G_Holdings_seat_thing (hr.mono (by decide)) b_Holdings_seat_thing v_Holdings_seat_thing pass0 (pa_cons (pv 1) pa_nil)))
  (pss_cons (ps_set (i := 3) sc_Holdings_best_seat.nd rfl (Or.inr rfl) (pe_ix ix_list (pe_fld (pv 0) (by rfl)) (pv 2) (fun _ _ => rfl)))
  (pss_cons (ps_setLc (i := 4) (own := [("x", 5)]) (g := gName 5) (by rfl) sc_Holdings_best_seat.nd rfl rfl (sw_true rfl rfl rfl (by decide +kernel)) (pi_range1 rfl T.b_range (pa_cons pe_int pa_nil)) (blkOk_by (own := [("x", 5)]) (N := ["self", "seat", "thing", "root", "same", "x"]) (sc := defScope s_Holdings_best_seat) (by decide +kernel)) (fun _ _ _ _ _ => pg_name (i := 5) sc_Holdings_best_seat.nd rfl (Or.inl rfl)) (fun _ _ _ _ _ => (pts_one (pt_cmpR op_eq (pe_dget1 (by exact hu) (pe_fldB (K0 := K) (by rfl) (pv 0) (by rfl)) (pv 5) (by exact ⟨rfl, rfl, rfl, rfl⟩)) (pv 3) (nomark _)))) (fun _ _ _ _ _ => (pv 5)))
  (pss_cons (ps_if (pt_cmpR (op_eqD hr.units) (pv 4) (pe_lst pa_nil) (nomark _))
  (pss_one (ps_setLc (i := 4) (own := [("x", 5)]) (g := gName 5) (by rfl) sc_Holdings_best_seat.nd rfl rfl (sw_true rfl rfl rfl (by decide +kernel)) (pi_range1 rfl T.b_range (pa_cons pe_int pa_nil)) (blkOk_by (own := [("x", 5)]) (N := ["self", "seat", "thing", "root", "same", "x"]) (sc := defScope s_Holdings_best_seat) (by decide +kernel)) (fun _ _ _ _ _ => pg_name (i := 5) sc_Holdings_best_seat.nd rfl (Or.inl rfl)) (fun _ _ _ _ _ => (pts_one (pt_cmpR op_eq (pe_dget1 (by exact hu) (pe_fldB (K0 := K) (by rfl) (pv 0) (by rfl)) (pv 5) (by exact ⟨rfl, rfl, rfl, rfl⟩)) (pv 2) (nomark _)))) (fun _ _ _ _ _ => (pv 5))))
  pss_nil)
  (pss_one (ps_ret (pe_ix ix_list (pv 4) pe_int (fun _ _ => rfl)))))))), ?_⟩
    obtain ⟨⟨S1, v1⟩, e1, e2⟩ := Option.bind_eq_some_iff.mp e
    obtain ⟨root, e3, e4⟩ := Option.bind_eq_some_iff.mp e2
    obtain ⟨t, rfl, ht⟩ := atV_at e3
    refine ⟨_, rfl, _, _, _, rfl, B.ko, rfl, _, rfl, L, S, S1, x, _, rfl, B, e1, fun H1 B1 f1 => ?_⟩
    refine ⟨_, rfl, _, _, _, _, _, rfl, B1.ko, T.c_Holdings, T.n_Holdings_roots, L_Holdings_roots, _, rfl, L.ro, _, _, _, rfl, rfl, seql B1.roo, atI_nat (j := t) ht, ?_⟩
    by_cases ok : okS S1.seats 8 root = true
    rotate_left
    · rw [if_neg ok] at e4
      cases e4
    rw [if_pos ok] at e4
    refine ⟨_, rfl, by decide, by decide, fun D hD => lc_range (lo := 0) (n := 8) (fun i H2 => ∃ l, l = ((List.range i).filter fun j => decide (getN S1.seats j = root)) ∧ Same H1 H2 ∧ H2 D = some (.lst (l.map fun j => V.int (j : Nat)))) ?_ ?_ ?_⟩
    · exact ⟨[], rfl, same_new hD, upd_same⟩
    · rintro i H2 hi ⟨l, rfl, e, hl⟩
      have sc := List.all_eq_true.mp ok i (List.mem_range.mpr hi)
      refine ⟨rfl, ?_⟩
      rw [show (0 : Int) + (i : Int) = (i : Int) from Int.zero_add _]
      refine ⟨_, rfl, _, _, _, _, _, rfl, e _ _ B1.ko, T.c_Holdings, T.n_Holdings_seats, L_Holdings_seats, L.se, rfl, .inl ⟨_, .inl (e _ _ B1.seo)⟩, _, rfl, _, .k (k := Sum.inl (i : Int)) (e _ _ B1.seo), _, rfl, sc, _, rfl, ?_⟩
      by_cases q : getN S1.seats i = root
      · rw [decide_eq_true (show (valV S1.seats (Sum.inl (i : Int) : L2.Key)).getD .non = root from q)]
        refine iteT ⟨_, rfl, _, hl, ?_, ?_⟩
        · rw [List.length_map]
          refine Nat.lt_of_le_of_lt (List.length_filter_le _ _) ?_
          rw [List.length_range]
          exact small1000 (by omega)
        · refine ⟨_, rfl, fun b o z => ?_, ?_⟩
          · rw [upd_ne (ne_of_none z hD)]
            exact e _ _ z
          · rw [upd_same, List.range_succ, List.filter_append, List.map_append]
            simp [q]
      · rw [decide_eq_false (show ¬ (valV S1.seats (Sum.inl (i : Int) : L2.Key)).getD .non = root from q)]
        refine iteF ⟨_, rfl, e, ?_⟩
        rw [hl, List.range_succ, List.filter_append]
        simp [q]
    · rintro H2 ⟨l, el, e5, hl⟩
      replace el : l = eqs S1.seats 8 root := el
      have B2 := B1.same e5
      have f2 := f1.trans (FrH.of_same (L := L) e5)
      have el2 : (l.map fun j => V.int (j : Nat)) = (l.map Int.ofNat).map V.int := by rw [List.map_map]; rfl
      refine ⟨_, rfl, (by show 0 ≤ sizeLine; decide), fun q hq => ?_⟩
      have hl3 : upd H2 q (.lst []) D = some (.lst ((l.map Int.ofNat).map V.int)) := by
        rw [upd_ne (ne_of_none hl hq), hl, el2]
      have B3 := B2.same (same_new (o := .lst []) hq)
      have f3 := f2.trans (FrH.of_same (L := L) (same_new (o := .lst []) hq))
      refine ⟨_, _, .lst (seql hl3) (dp_ints _), .lst (seql upd_same) .nil, shp_ints _, rfl, _, rfl, ?_⟩
      generalize upd H2 q (.lst []) = H3 at *
      have e6 : eqs S1.seats 8 root = l := el.symm
      cases l with
      | cons y l =>
        have e4' : (match eqs S1.seats 8 root with
          | y :: _ => some (S1, (y : Int))
          | [] => if okS S1.seats 8 (.int (t : Int)) = true then (match eqs S1.seats 8 (.int (t : Int)) with
            | y :: _ => some (S1, (y : Int))
            | [] => none) else none) = some (S', v) := e4
        rw [e6] at e4'
        cases e4'
        refine iteF ⟨_, rfl, D, _, _, _, rfl, rfl, seql hl3, atI_nat (j := 0) rfl, k _ B3 f3⟩
      | nil =>
        have e4' : (match eqs S1.seats 8 root with
          | y :: _ => some (S1, (y : Int))
          | [] => if okS S1.seats 8 (.int (t : Int)) = true then (match eqs S1.seats 8 (.int (t : Int)) with
            | y :: _ => some (S1, (y : Int))
            | [] => none) else none) = some (S', v) := e4
        rw [e6] at e4'
        dsimp only at e4'
        by_cases ok2 : okS S1.seats 8 (.int (t : Int)) = true
        rotate_left
        · rw [if_neg ok2] at e4'
          cases e4'
        rw [if_pos ok2] at e4'
        refine iteT ?_
        refine ⟨_, rfl, by decide, by decide, fun D2 hD2 => lc_range (lo := 0) (n := 8) (fun i H2 => ∃ l, l = ((List.range i).filter fun j => decide (getN S1.seats j = (V.int (t : Int)))) ∧ Same H3 H2 ∧ H2 D2 = some (.lst (l.map fun j => V.int (j : Nat)))) ?_ ?_ ?_⟩
        · exact ⟨[], rfl, same_new hD2, upd_same⟩
        · rintro i H2 hi ⟨l, rfl, e, hl⟩
          have sc := List.all_eq_true.mp ok2 i (List.mem_range.mpr hi)
          refine ⟨rfl, ?_⟩
          rw [show (0 : Int) + (i : Int) = (i : Int) from Int.zero_add _]
          refine ⟨_, rfl, _, _, _, _, _, rfl, e _ _ B3.ko, T.c_Holdings, T.n_Holdings_seats, L_Holdings_seats, L.se, rfl, .inl ⟨_, .inl (e _ _ B3.seo)⟩, _, rfl, _, .k (k := Sum.inl (i : Int)) (e _ _ B3.seo), _, rfl, sc, _, rfl, ?_⟩
          by_cases q : getN S1.seats i = (V.int (t : Int))
          · rw [decide_eq_true (show (valV S1.seats (Sum.inl (i : Int) : L2.Key)).getD .non = (V.int (t : Int)) from q)]
            refine iteT ⟨_, rfl, _, hl, ?_, ?_⟩
            · rw [List.length_map]
              refine Nat.lt_of_le_of_lt (List.length_filter_le _ _) ?_
              rw [List.length_range]
              exact small1000 (by omega)
            · refine ⟨_, rfl, fun b o z => ?_, ?_⟩
              · rw [upd_ne (ne_of_none z hD2)]
                exact e _ _ z
              · rw [upd_same, List.range_succ, List.filter_append, List.map_append]
                simp [q]
          · rw [decide_eq_false (show ¬ (valV S1.seats (Sum.inl (i : Int) : L2.Key)).getD .non = (V.int (t : Int)) from q)]
            refine iteF ⟨_, rfl, e, ?_⟩
            rw [hl, List.range_succ, List.filter_append]
            simp [q]
        · rintro H4 ⟨l2, el2, e7, hl4⟩
          replace el2 : l2 = eqs S1.seats 8 (V.int (t : Int)) := el2
          rw [← el2] at e4'
          cases l2 with
          | nil => cases e4'
          | cons y l2 =>
            cases e4'
            exact ⟨_, rfl, D2, _, _, _, rfl, rfl, seql hl4, atI_nat (j := 0) rfl, k _ (B3.same e7) (f3.trans (FrH.of_same e7))⟩
theorem sc_Holdings_best_mask : FnScope ["self", "mask", "thing", "same", "x"] ["self", "mask"] (defScope s_Holdings_best_mask) := ⟨rfl, rfl, rfl, by decide +kernel, rfl, by decide +kernel, by decide +kernel⟩
theorem bi_Holdings_best_mask {K : PySem.W.Frag} {f : Addr} {fd : FuncData} (F : FunD K "best_mask" "Holdings.best_mask" (defArgs s_Holdings_best_mask) (defBody s_Holdings_best_mask) (defScope s_Holdings_best_mask) [] [] f fd) : Binds K fd ["self", "mask"] [] := F.bindsN fun _ _ _ _ _ _ us hl => match us, hl with | [_, _], _ => rfl
theorem ok_Holdings_best_mask (T : Tx K mg) : Gd P w K mg base CX0 3 (He.fAd K ("Holdings", some "best_mask")) ["self", "mask"] [] (spBest K bestMask) := by
  obtain ⟨fd_Holdings_mask_thing, G_Holdings_mask_thing, p_Holdings_mask_thing, ds_Holdings_mask_thing, v_Holdings_mask_thing, b_Holdings_mask_thing⟩ := ok_Holdings_mask_thing (P := P) (w := w) (base := base) T
  refine gd_mk T.d_Holdings_best_mask sc_Holdings_best_mask (fun F => bn (bi_Holdings_best_mask F)) (fun vs H Q E h => ?_) (fun cdv A outer s H vs Q E hr h => ?_)
  · obtain ⟨_, _, _, _, _, rfl, _⟩ := h
    rfl
  · obtain ⟨L, S, S', x, v, rfl, B, e, k⟩ := h
    have hu := hu_of hr
    refine ⟨_, (pss_cons (ps_set (i := 2) sc_Holdings_best_mask.nd rfl (Or.inr rfl) (pe_meth (pv 0) T.c_Holdings T.m_Holdings_mask_thing G_Holdings_mask_thing (hr.mono (by decide)) b_Holdings_mask_thing v_Holdings_mask_thing pass0 (pa_cons (pv 1) pa_nil)))
  (pss_cons (ps_setLc (i := 3) (own := [("x", 4)]) (g := gName 4) (by rfl) sc_Holdings_best_mask.nd rfl rfl (sw_true rfl rfl rfl (by decide +kernel)) (pi_range1 rfl T.b_range (pa_cons pe_int pa_nil)) (blkOk_by (own := [("x", 4)]) (N := ["self", "mask", "thing", "same", "x"]) (sc := defScope s_Holdings_best_mask) (by decide +kernel)) (fun _ _ _ _ _ => pg_name (i := 4) sc_Holdings_best_mask.nd rfl (Or.inl rfl)) (fun _ _ _ _ _ => (pts_one (pt_cmpR op_eq (pe_dget1 (by exact hu) (pe_fldB (K0 := K) (by rfl) (pv 0) (by rfl)) (pv 4) (by exact ⟨rfl, rfl, rfl, rfl⟩)) (pv 2) (nomark _)))) (fun _ _ _ _ _ => (pv 4)))
  (pss_one (ps_ret (pe_ix ix_list (pv 3) pe_int (fun _ _ => rfl)))))), ?_⟩
    obtain ⟨⟨S1, v1⟩, e1, e4⟩ := Option.bind_eq_some_iff.mp e
    refine ⟨_, rfl, _, _, _, rfl, B.ko, rfl, _, rfl, L, S, S1, x, _, rfl, B, e1, fun H1 B1 f1 => ?_⟩
    by_cases ok : okS S1.masks 16 v1 = true
    rotate_left
    · rw [if_neg ok] at e4
      cases e4
    rw [if_pos ok] at e4
    refine ⟨_, rfl, by decide, by decide, fun D hD => lc_range (lo := 0) (n := 16) (fun i H2 => ∃ l, l = ((List.range i).filter fun j => decide (getN S1.masks j = v1)) ∧ Same H1 H2 ∧ H2 D = some (.lst (l.map fun j => V.int (j : Nat)))) ?_ ?_ ?_⟩
    · exact ⟨[], rfl, same_new hD, upd_same⟩
    · rintro i H2 hi ⟨l, rfl, e, hl⟩
      have sc := List.all_eq_true.mp ok i (List.mem_range.mpr hi)
      refine ⟨rfl, ?_⟩
      rw [show (0 : Int) + (i : Int) = (i : Int) from Int.zero_add _]
      refine ⟨_, rfl, _, _, _, _, _, rfl, e _ _ B1.ko, T.c_Holdings, T.n_Holdings_masks, L_Holdings_masks, L.ma, rfl, .inl ⟨_, .inl (e _ _ B1.mao)⟩, _, rfl, _, .k (k := Sum.inl (i : Int)) (e _ _ B1.mao), _, rfl, sc, _, rfl, ?_⟩
      by_cases q : getN S1.masks i = v1
      · rw [decide_eq_true (show (valV S1.masks (Sum.inl (i : Int) : L2.Key)).getD .non = v1 from q)]
        refine iteT ⟨_, rfl, _, hl, ?_, ?_⟩
        · rw [List.length_map]
          refine Nat.lt_of_le_of_lt (List.length_filter_le _ _) ?_
          rw [List.length_range]
          exact small1000 (by omega)
        · refine ⟨_, rfl, fun b o z => ?_, ?_⟩
          · rw [upd_ne (ne_of_none z hD)]
            exact e _ _ z
          · rw [upd_same, List.range_succ, List.filter_append, List.map_append]
            simp [q]
      · rw [decide_eq_false (show ¬ (valV S1.masks (Sum.inl (i : Int) : L2.Key)).getD .non = v1 from q)]
        refine iteF ⟨_, rfl, e, ?_⟩
        rw [hl, List.range_succ, List.filter_append]
        simp [q]
    · rintro H2 ⟨l, el, e5, hl⟩
      replace el : l = eqs S1.masks 16 v1 := el
      have e4' : (match eqs S1.masks 16 v1 with
          | y :: _ => some (S1, (y : Int))
          | [] => none) = some (S', v) := e4
      rw [← el] at e4'
      cases l with
      | nil => cases e4'
      | cons y l =>
        cases e4'
        exact ⟨_, rfl, D, _, _, _, rfl, rfl, seql hl, atI_nat (j := 0) rfl, k _ (B1.same e5) (f1.trans (FrH.of_same e5))⟩
end
end Rb
set_option Elab.async false
set_option linter.all false
set_option maxRecDepth 100000
set_option maxHeartbeats 4000000
/-! the shortener: the start, the keys -/
namespace Rb
open PySem PySem.Spec PyProof.Rows L2
theorem ButL.free {c : Addr} {H H' : Hp} (f : ButL c H H') {a : Addr} (h : H' a = none) (n : a ≠ c) : H a = none := by
  cases e : H a with
  | none => rfl
  | some o =>
    have := f a o e n
    rw [h] at this
    cases this
section
variable {P : Program} {w : World} {K : PySem.W.Frag} {mg : Str → Option Value} {base : Heap}
theorem sc_Holdings_init : FnScope ["self"] ["self"] (defScope s_Holdings_init) := ⟨rfl, rfl, rfl, by decide +kernel, rfl, by decide +kernel, by decide +kernel⟩
theorem bi_Holdings_init {K : PySem.W.Frag} {f : Addr} {fd : FuncData} (F : FunD K "__init__" "Holdings.__init__" (defArgs s_Holdings_init) (defBody s_Holdings_init) (defScope s_Holdings_init) [] [] f fd) : Binds K fd ["self"] [] := F.bindsN fun _ _ _ _ _ _ us hl => match us, hl with | [_], _ => rfl
theorem ok_Holdings_init (T : Tx K mg) : Gd P w K mg base CX0 1 (He.fAd K ("Holdings", some "__init__")) ["self"] [] (spHoldInit K) := by
  refine gd_mk T.d_Holdings_init sc_Holdings_init (fun F => bn (bi_Holdings_init F)) (fun vs H Q E h => ?_) (fun cdv A outer s H vs Q E hr h => ?_)
  · obtain ⟨_, _, rfl, _⟩ := h
    rfl
  · obtain ⟨p, dx, rfl, hp, k⟩ := h
    refine ⟨_, (pss_cons (ps_fld (pv 0) pe_dnewK rfl)
  (pss_cons (ps_fld (pv 0) (pe_disp (pps_cons pe_int pe_int pps_nil) (by rfl) (by rfl) (fun z => by cases z) (by decide)) rfl)
  (pss_cons (ps_fld (pv 0) pe_dnewK rfl)
  (pss_cons (ps_fld (pv 0) pe_dnewT rfl)
  (pss_cons (ps_fld (pv 0) (pe_lst (pa_cons pe_int pa_nil)) rfl)
  (pss_cons (ps_fld (pv 0) pe_dnewK rfl)
  (pss_one (ps_fld (pv 0) pe_int rfl)))))))), ?_⟩
    refine fun q0 hq0 => ?_
    have n0 : p ≠ q0 := ne_of_none hp hq0
    have m0 := (ButL.new (c := p) (o := .dK []) hq0).trans (ButL.put (o := .ins (C_Holdings K) dx [("seats", .ref q0)]))
    refine ⟨_, rfl, _, _, _, _, rfl, (upd_ne n0).trans hp, T.c_Holdings, T.n_Holdings_seats, J_Holdings_0, ?_⟩
    rw [I_Holdings_0]
    refine fun q1 hq1 => ⟨upd_same, [(Sum.inl 0, .int 0)], rfl, by decide, ?_⟩
    rw [upd_upd]
    show ∃ x, _
    have n1 : p ≠ q1 := fun e => by
      rw [← e, upd_same] at hq1
      cases hq1
    have m1 := (ButL.new (c := p) (o := .dK [(Sum.inl 0, .int 0)]) hq1).trans (ButL.put (o := .ins (C_Holdings K) dx [("seats", .ref q0), ("masks", .ref q1)]))
    refine ⟨_, rfl, _, _, _, _, rfl, (upd_ne n1).trans upd_same, T.c_Holdings, T.n_Holdings_masks, J_Holdings_1, ?_⟩
    rw [I_Holdings_1]
    refine fun q2 hq2 => ?_
    have n2 : p ≠ q2 := fun e => by
      rw [← e, upd_same] at hq2
      cases hq2
    have m2 := (ButL.new (c := p) (o := .dK []) hq2).trans (ButL.put (o := .ins (C_Holdings K) dx [("seats", .ref q0), ("masks", .ref q1), ("slots", .ref q2)]))
    refine ⟨_, rfl, _, _, _, _, rfl, (upd_ne n2).trans upd_same, T.c_Holdings, T.n_Holdings_slots, J_Holdings_2, ?_⟩
    rw [I_Holdings_2]
    refine fun q3 hq3 => ?_
    have n3 : p ≠ q3 := fun e => by
      rw [← e, upd_same] at hq3
      cases hq3
    have m3 := (ButL.new (c := p) (o := .dT []) hq3).trans (ButL.put (o := .ins (C_Holdings K) dx [("seats", .ref q0), ("masks", .ref q1), ("slots", .ref q2), ("things", .ref q3)]))
    refine ⟨_, rfl, _, _, _, _, rfl, (upd_ne n3).trans upd_same, T.c_Holdings, T.n_Holdings_things, J_Holdings_3, ?_⟩
    rw [I_Holdings_3]
    refine ⟨(by show 1 ≤ sizeLine; decide), fun q4 hq4 => ?_⟩
    have n4 : p ≠ q4 := fun e => by
      rw [← e, upd_same] at hq4
      cases hq4
    have m4 := (ButL.new (c := p) (o := .lst [.int 0]) hq4).trans (ButL.put (o := .ins (C_Holdings K) dx [("seats", .ref q0), ("masks", .ref q1), ("slots", .ref q2), ("things", .ref q3), ("roots", .ref q4)]))
    refine ⟨_, rfl, _, _, _, _, rfl, (upd_ne n4).trans upd_same, T.c_Holdings, T.n_Holdings_roots, J_Holdings_4, ?_⟩
    rw [I_Holdings_4]
    refine fun q5 hq5 => ?_
    have n5 : p ≠ q5 := fun e => by
      rw [← e, upd_same] at hq5
      cases hq5
    have m5 := (ButL.new (c := p) (o := .dK []) hq5).trans (ButL.put (o := .ins (C_Holdings K) dx [("seats", .ref q0), ("masks", .ref q1), ("slots", .ref q2), ("things", .ref q3), ("roots", .ref q4), ("written", .ref q5)]))
    refine ⟨_, rfl, _, _, _, _, rfl, (upd_ne n5).trans upd_same, T.c_Holdings, T.n_Holdings_written, J_Holdings_5, ?_⟩
    rw [I_Holdings_5]
    refine ⟨_, rfl, _, _, _, _, rfl, upd_same, T.c_Holdings, T.n_Holdings_age, J_Holdings_6, ?_⟩
    rw [I_Holdings_6, upd_upd]
    have mf := (ButL.new (c := p) (o := .dK []) hq5).trans (ButL.put (o := .ins (C_Holdings K) dx (F_Holdings (.ref q0) (.ref q1) (.ref q2) (.ref q3) (.ref q4) (.ref q5) (.int 0))))
    have d01 : q0 ≠ q1 := ne_of_none ((ButL.put (c := p) (o := .ins (C_Holdings K) dx [("seats", .ref q0)])) q0 _ (upd_same (o := .dK [])) n0.symm) hq1
    have d02 : q0 ≠ q2 := ne_of_none (((ButL.put (c := p) (o := .ins (C_Holdings K) dx [("seats", .ref q0)])).trans m1) q0 _ (upd_same (o := .dK [])) n0.symm) hq2
    have d05 : q0 ≠ q5 := ne_of_none ((((((ButL.put (c := p) (o := .ins (C_Holdings K) dx [("seats", .ref q0)])).trans m1).trans m2).trans m3).trans m4) q0 _ (upd_same (o := .dK [])) n0.symm) hq5
    have d12 : q1 ≠ q2 := ne_of_none ((ButL.put (c := p) (o := .ins (C_Holdings K) dx [("seats", .ref q0), ("masks", .ref q1)])) q1 _ (upd_same (o := .dK [(Sum.inl 0, .int 0)])) n1.symm) hq2
    have d15 : q1 ≠ q5 := ne_of_none (((((ButL.put (c := p) (o := .ins (C_Holdings K) dx [("seats", .ref q0), ("masks", .ref q1)])).trans m2).trans m3).trans m4) q1 _ (upd_same (o := .dK [(Sum.inl 0, .int 0)])) n1.symm) hq5
    have d25 : q2 ≠ q5 := ne_of_none ((((ButL.put (c := p) (o := .ins (C_Holdings K) dx [("seats", .ref q0), ("masks", .ref q1), ("slots", .ref q2)])).trans m3).trans m4) q2 _ (upd_same (o := .dK [])) n2.symm) hq5
    have v0 := ((((((ButL.put (c := p) (o := .ins (C_Holdings K) dx [("seats", .ref q0)])).trans m1).trans m2).trans m3).trans m4).trans mf) q0 _ (upd_same (o := .dK [])) n0.symm
    have v1 := (((((ButL.put (c := p) (o := .ins (C_Holdings K) dx [("seats", .ref q0), ("masks", .ref q1)])).trans m2).trans m3).trans m4).trans mf) q1 _ (upd_same (o := .dK [(Sum.inl 0, .int 0)])) n1.symm
    have v2 := ((((ButL.put (c := p) (o := .ins (C_Holdings K) dx [("seats", .ref q0), ("masks", .ref q1), ("slots", .ref q2)])).trans m3).trans m4).trans mf) q2 _ (upd_same (o := .dK [])) n2.symm
    have v3 := (((ButL.put (c := p) (o := .ins (C_Holdings K) dx [("seats", .ref q0), ("masks", .ref q1), ("slots", .ref q2), ("things", .ref q3)])).trans m4).trans mf) q3 _ (upd_same (o := .dT [])) n3.symm
    have v4 := ((ButL.put (c := p) (o := .ins (C_Holdings K) dx [("seats", .ref q0), ("masks", .ref q1), ("slots", .ref q2), ("things", .ref q3), ("roots", .ref q4)])).trans mf) q4 _ (upd_same (o := .lst [.int 0])) n4.symm
    have al : ButL p H _ := ((((m0.trans m1).trans m2).trans m3).trans m4).trans mf
    have z0 : H q0 = none := ButL.free (ButL.refl p H) hq0 n0.symm
    have z1 : H q1 = none := ButL.free (m0) hq1 n1.symm
    have z2 : H q2 = none := ButL.free ((m0.trans m1)) hq2 n2.symm
    have z3 : H q3 = none := ButL.free (((m0.trans m1).trans m2)) hq3 n3.symm
    have z4 : H q4 = none := ButL.free ((((m0.trans m1).trans m2).trans m3)) hq4 n4.symm
    have z5 : H q5 = none := ButL.free (((((m0.trans m1).trans m2).trans m3).trans m4)) hq5 n5.symm
    refine k ⟨p, dx, q0, q1, q2, q3, q4, q5⟩ _ rfl ⟨upd_same, v0, v1, v2, v3, v4, (upd_ne n5.symm).trans upd_same, d01, d02, d05, d12, d15, d25⟩ ?_ al
    rintro a (e | e | e | e | e | e | e)
    · exact .inl e
    · exact .inr (e ▸ z0)
    · exact .inr (e ▸ z1)
    · exact .inr (e ▸ z2)
    · exact .inr (e ▸ z3)
    · exact .inr (e ▸ z4)
    · exact .inr (e ▸ z5)
end
end Rb
set_option Elab.async false
set_option linter.all false
set_option maxRecDepth 100000
set_option maxHeartbeats 4000000
/-! the shortener: steps folded, turned, their keys -/
namespace Rb
open PySem PySem.Spec PyProof.Rows L2
/-- the int at a place of a step -/
def intAt (s : Sx) (i : Nat) : Option Int := match s.k[i]? with
  | some (Sum.inl x) => some x
  | _ => none
theorem intAt_v {s : Sx} {i : Nat} {x : Int} (h : intAt s i = some x) : s.v[i]? = some (.int x) := by
  unfold intAt at h
  split at h
  · rename_i y hy
    cases h
    unfold Sx.v
    rw [List.getElem?_map, hy]
    rfl
  · cases h
def asInt : V → Option Int
  | .int t => some t
  | _ => none
theorem asInt_eq {v : V} {t : Int} (h : asInt v = some t) : v = .int t := by
  cases v <;> first | (cases h; rfl) | cases h
def writ (S : HS) (t : Int) : V := (valV S.written (Sum.inl t : L2.Key)).getD .non
def foldS (S : HS) (s : Sx) : Option HS := if s.w = "op" then
    (intAt s 3).bind fun i => (intAt s 4).bind fun j => (rootAt S i).bind fun q => (asInt q.2).bind fun a => (rootAt q.1 j).bind fun q2 => (asInt q2.2).bind fun b =>
      if writ q.1 a = .non ∨ writ q2.1 b = .non then some q2.1 else none
  else some S
def turnL (f : HS → Int → Option (HS × Int)) (s : Sx) : List Nat → HS → Option HS
  | [], S => some S
  | i :: r, S => (intAt s i).bind fun x => (f S x).bind fun q => if q.2 = x then turnL f s r q.1 else none
def turnS (S : HS) (s : Sx) : Option HS := (turnL bestSeat s (seatAts s) S).bind fun S1 => turnL bestMask s (maskAts s) S1
def keyL (f : HS → Int → Option (HS × V)) (s : Sx) : List Nat → HS × List L2.Key → Option (HS × List L2.Key)
  | [], q => some q
  | i :: r, q => (intAt s i).bind fun x => (f q.1 x).bind fun z => (asInt z.2).bind fun t => keyL f s r (z.1, q.2.set i (Sum.inl t))
theorem HoldAt.other {K : PySem.W.Frag} {L : HL} {S : HS} {H : Hp} (A : HoldAt K L S H) {a : Addr} {o : HO} (h : ¬ L.own a) : HoldAt K L S (upd H a o) :=
  { A with
    ko := upa (fun z => h (.inl z.symm)) A.ko
    seo := upa (fun z => h (.inr (.inl z.symm))) A.seo
    mao := upa (fun z => h (.inr (.inr (.inl z.symm)))) A.mao
    slo := upa (fun z => h (.inr (.inr (.inr (.inl z.symm))))) A.slo
    tho := upa (fun z => h (.inr (.inr (.inr (.inr (.inl z.symm)))))) A.tho
    roo := upa (fun z => h (.inr (.inr (.inr (.inr (.inr (.inl z.symm))))))) A.roo
    wro := upa (fun z => h (.inr (.inr (.inr (.inr (.inr (.inr z.symm))))))) A.wro }
theorem FrH.new {L : HL} {H H' : Hp} (f : FrH L H H') {p : Addr} {o : HO} (h : H p = none) : FrH L H (upd H' p o) := fun a u e n => by
  rw [upd_ne (ne_of_none e h)]
  exact f a u e n
theorem FrH.free {L : HL} {H H' : Hp} (f : FrH L H H') {p : Addr} (n : ¬ L.own p) (h : H' p = none) : H p = none := by
  cases e : H p with
  | none => rfl
  | some o =>
    have := f p o e n
    rw [h] at this
    cases this
def keyOf (S : HS) (s : Sx) : Option (HS × List L2.Key) := if 1 < s.k.length ∧ s.k.length < 100 then
    (keyL rootAt s (seatAts s) (S, s.k.set 1 (Sum.inr ""))).bind fun q => (keyL maskThing s (maskAts s) q).bind fun q2 =>
      (if s.w = "bring" then (intAt s 2).bind fun i => (slotThing q2.1 i).bind fun z => (asInt z.2).bind fun t => some (z.1, q2.2.set 2 (Sum.inl t)) else some q2).bind fun q3 =>
        some (if wIn s.w ["load", "spread", "shift", "gather"] = true then (q3.1, q3.2 ++ [Sum.inl q3.1.age]) else q3)
  else none
def spKey (K : PySem.W.Frag) : Sp := fun vs H Q _ => ∃ (L : HL) (S S' : HS) (a : Addr) (s : Sx) (key : List L2.Key), vs = [.ref L.kn, .ref a] ∧ HoldAt K L S H ∧ H a = some (.tup s.v) ∧ keyOf S s = some (S', key) ∧ ∀ q H', H q = none → HoldAt K L S' H' → FrH L H H' → H' q = some (.tup (key.map kV)) → Q (.ref q) H'
def spFold (K : PySem.W.Frag) : Sp := fun vs H Q _ => ∃ (L : HL) (S S' : HS) (a : Addr) (s : Sx), vs = [.ref L.kn, .ref a] ∧ HoldAt K L S H ∧ H a = some (.tup s.v) ∧ foldS S s = some S' ∧ ∀ H', HoldAt K L S' H' → FrH L H H' → Q (.ref a) H'
def spTurn (K : PySem.W.Frag) : Sp := fun vs H Q _ => ∃ (L : HL) (S S' : HS) (a : Addr) (s : Sx), vs = [.ref L.kn, .ref a] ∧ HoldAt K L S H ∧ H a = some (.tup s.v) ∧ turnS S s = some S' ∧ ∀ q H', H q = none → HoldAt K L S' H' → FrH L H H' → H' q = some (.tup s.v) → Q (.ref q) H'
section
variable {P : Program} {w : World} {K : PySem.W.Frag} {mg : Str → Option Value} {base : Heap}
theorem sc_folded_step : FnScope ["known", "step", "left", "right", "found"] ["known", "step"] (defScope s_folded_step) := ⟨rfl, rfl, rfl, by decide +kernel, rfl, by decide +kernel, by decide +kernel⟩
theorem bi_folded_step {K : PySem.W.Frag} {f : Addr} {fd : FuncData} (F : FunD K "folded_step" "folded_step" (defArgs s_folded_step) (defBody s_folded_step) (defScope s_folded_step) [] [] f fd) : Binds K fd ["known", "step"] [] := F.bindsN fun _ _ _ _ _ _ us hl => match us, hl with | [_, _], _ => rfl
theorem ok_folded_step (T : Tx K mg) : Gd P w K mg base CX0 4 (He.fAd K ("folded_step", none)) ["known", "step"] [] (spFold K) := by
  obtain ⟨fd_Holdings_root_at, G_Holdings_root_at, p_Holdings_root_at, ds_Holdings_root_at, v_Holdings_root_at, b_Holdings_root_at⟩ := ok_Holdings_root_at (P := P) (w := w) (base := base) T
  refine gd_mk T.d_folded_step sc_folded_step (fun F => bn (bi_folded_step F)) (fun vs H Q E h => ?_) (fun cdv A outer s H vs Q E hr h => ?_)
  · obtain ⟨_, _, _, _, _, rfl, _⟩ := h
    rfl
  · obtain ⟨L, S, S', a, st, rfl, B, ha, e, k⟩ := h
    have hu := hu_of hr
    refine ⟨_, (pss_cons (ps_if (pt_cmpR op_ne (pe_ix ix_tup (pv 1) pe_int (fun _ _ => rfl)) pe_str (nomark _))
  (pss_one (ps_ret (pv 1)))
  pss_nil)
  (pss_cons (ps_set (i := 2) sc_folded_step.nd rfl (Or.inl rfl) (pe_dget1 hu (pe_fld (pv 0) rfl) (pe_meth (pv 0) T.c_Holdings T.m_Holdings_root_at G_Holdings_root_at (hr.mono (by decide)) b_Holdings_root_at v_Holdings_root_at pass0 (pa_cons (pe_ix ix_tup (pv 1) pe_int (fun _ _ => rfl)) pa_nil)) ⟨rfl, rfl, rfl, rfl⟩))
  (pss_cons (ps_set (i := 3) sc_folded_step.nd rfl (Or.inl rfl) (pe_dget1 hu (pe_fld (pv 0) rfl) (pe_meth (pv 0) T.c_Holdings T.m_Holdings_root_at G_Holdings_root_at (hr.mono (by decide)) b_Holdings_root_at v_Holdings_root_at pass0 (pa_cons (pe_ix ix_tup (pv 1) pe_int (fun _ _ => rfl)) pa_nil)) ⟨rfl, rfl, rfl, rfl⟩))
  (pss_cons (ps_if (PW.pt (pw_or (pt_cmpR op_isN (pv 2) pe_non (nomark _)) (pw_or1 (pt_cmpR op_isN (pv 3) pe_non (nomark _)))))
  (pss_one (ps_ret (pv 1)))
  pss_nil)
  (pss_cons ps_never
  (pss_one ps_never)))))), ?_⟩
    unfold foldS at e
    refine ⟨_, rfl, a, _, _, _, rfl, rfl, seqt ha, atI_nat (j := 0) st.v0, rfl, _, rfl, ?_⟩
    by_cases ew : st.w = "op"
    rotate_left
    · rw [if_neg ew] at e
      cases e
      rw [decide_eq_false (show ¬ V.str st.w = V.str "op" from fun z => ew (V.str.inj z))]
      exact iteT ⟨_, rfl, k H B (FrH.refl L H)⟩
    rw [if_pos ew] at e
    rw [decide_eq_true (show V.str st.w = V.str "op" by rw [ew])]
    obtain ⟨i, hi, e⟩ := Option.bind_eq_some_iff.mp e
    obtain ⟨j, hj, e⟩ := Option.bind_eq_some_iff.mp e
    obtain ⟨⟨S1, r1⟩, h1, e⟩ := Option.bind_eq_some_iff.mp e
    obtain ⟨x1, hx1, e⟩ := Option.bind_eq_some_iff.mp e
    obtain ⟨⟨S2, r2⟩, h2, e⟩ := Option.bind_eq_some_iff.mp e
    obtain ⟨x2, hx2, e⟩ := Option.bind_eq_some_iff.mp e
    obtain rfl : r1 = .int x1 := asInt_eq hx1
    obtain rfl : r2 = .int x2 := asInt_eq hx2
    refine iteF ⟨_, rfl, _, _, _, _, _, rfl, B.ko, T.c_Holdings, T.n_Holdings_written, L_Holdings_written, L.wr, rfl, .inl ⟨_, .inl B.wro⟩, _, rfl, _, _, _, rfl, B.ko, rfl, _, rfl, a, _, _, _, rfl, rfl, seqt ha, atI_nat (j := 3) (intAt_v hi), L, S, S1, i, _, rfl, B, h1, fun H1 B1 f1 => ?_⟩
    have ha1 := f1 a _ ha (B.notTup ha)
    refine ⟨_, .k (k := Sum.inl x1) B1.wro, ?_⟩
    refine ⟨_, rfl, _, _, _, _, _, rfl, B1.ko, T.c_Holdings, T.n_Holdings_written, L_Holdings_written, L.wr, rfl, .inl ⟨_, .inl B1.wro⟩, _, rfl, _, _, _, rfl, B1.ko, rfl, _, rfl, a, _, _, _, rfl, rfl, seqt ha1, atI_nat (j := 4) (intAt_v hj), L, S1, S2, j, _, rfl, B1, h2, fun H2 B2 f2 => ?_⟩
    refine ⟨_, .k (k := Sum.inl x2) B2.wro, ?_⟩
    have fin : S2 = S' → tRet (tVar 1) { nx := fun x H' => Q V.non H', rt := Q } [some (.ref L.kn), some (.ref a), some ((valV S1.written (Sum.inl x1 : L2.Key)).getD .non), some ((valV S2.written (Sum.inl x2 : L2.Key)).getD .non), none] H2 := fun z => by
      subst z
      exact ⟨_, rfl, k H2 B2 (f1.trans f2)⟩
    refine ⟨_, rfl, rfl, _, rfl, ?_⟩
    by_cases w1 : writ S1 x1 = .non
    · rw [decide_eq_true (show (valV S1.written (Sum.inl x1 : L2.Key)).getD .non = .non from w1)]
      rw [if_pos (.inl w1)] at e
      exact iteT (iteT (fin (Option.some.inj e)))
    rw [decide_eq_false (show ¬ (valV S1.written (Sum.inl x1 : L2.Key)).getD .non = .non from w1)]
    refine iteF ⟨_, rfl, rfl, _, rfl, ?_⟩
    by_cases w2 : writ S2 x2 = .non
    · rw [decide_eq_true (show (valV S2.written (Sum.inl x2 : L2.Key)).getD .non = .non from w2)]
      rw [if_pos (.inr w2)] at e
      exact iteT (fin (Option.some.inj e))
    rw [if_neg (fun z => z.elim w1 w2)] at e
    cases e
theorem sc_turned_step : FnScope ["known", "step", "parts", "at"] ["known", "step"] (defScope s_turned_step) := ⟨rfl, rfl, rfl, by decide +kernel, rfl, by decide +kernel, by decide +kernel⟩
theorem bi_turned_step {K : PySem.W.Frag} {f : Addr} {fd : FuncData} (F : FunD K "turned_step" "turned_step" (defArgs s_turned_step) (defBody s_turned_step) (defScope s_turned_step) [] [] f fd) : Binds K fd ["known", "step"] [] := F.bindsN fun _ _ _ _ _ _ us hl => match us, hl with | [_, _], _ => rfl
theorem ok_turned_step (T : Tx K mg) : Gd P w K mg base CX0 4 (He.fAd K ("turned_step", none)) ["known", "step"] [] (spTurn K) := by
  obtain ⟨fd_Holdings_best_seat, G_Holdings_best_seat, p_Holdings_best_seat, ds_Holdings_best_seat, v_Holdings_best_seat, b_Holdings_best_seat⟩ := ok_Holdings_best_seat (P := P) (w := w) (base := base) T
  obtain ⟨fd_Holdings_best_mask, G_Holdings_best_mask, p_Holdings_best_mask, ds_Holdings_best_mask, v_Holdings_best_mask, b_Holdings_best_mask⟩ := ok_Holdings_best_mask (P := P) (w := w) (base := base) T
  obtain ⟨fd_seat_places, G_seat_places, p_seat_places, ds_seat_places, v_seat_places, b_seat_places⟩ := ok_seat_places (P := P) (w := w) (base := base) T
  obtain ⟨fd_mask_places, G_mask_places, p_mask_places, ds_mask_places, v_mask_places, b_mask_places⟩ := ok_mask_places (P := P) (w := w) (base := base) T
  refine gd_mk T.d_turned_step sc_turned_step (fun F => bn (bi_turned_step F)) (fun vs H Q E h => ?_) (fun cdv A outer s H vs Q E hr h => ?_)
  · obtain ⟨_, _, _, _, _, rfl, _⟩ := h
    rfl
  · obtain ⟨L, S, S', a, st, rfl, B, ha, e, k⟩ := h
    refine ⟨_, (pss_cons (ps_set (i := 2) sc_turned_step.nd rfl (Or.inl rfl) (pe_callTy call_list_of (by rfl) T.b_list (by decide +kernel) (pa_cons (pv 1) pa_nil)))
  (pss_cons (ps_for PassesOwn.never rfl (pi_list (pe_call G_seat_places (hr.mono (by decide)) rfl T.g_seat_places p_seat_places b_seat_places v_seat_places pass0 (pa_cons (pv 1) pa_nil))) (pg_name (i := 3) sc_turned_step.nd rfl (Or.inl rfl))
  (pss_one (ps_asg (pe_meth (pv 0) T.c_Holdings T.m_Holdings_best_seat G_Holdings_best_seat (hr.mono (by decide)) b_Holdings_best_seat v_Holdings_best_seat pass0 (pa_cons (pe_ix ix_tup (pv 1) (pv 3) (fun _ _ => rfl)) pa_nil)) (pg_sub (pv 2) (pv 3) set_list))))
  (pss_cons (ps_for PassesOwn.never rfl (pi_list (pe_call G_mask_places (hr.mono (by decide)) rfl T.g_mask_places p_mask_places b_mask_places v_mask_places pass0 (pa_cons (pv 1) pa_nil))) (pg_name (i := 3) sc_turned_step.nd rfl (Or.inl rfl))
  (pss_one (ps_asg (pe_meth (pv 0) T.c_Holdings T.m_Holdings_best_mask G_Holdings_best_mask (hr.mono (by decide)) b_Holdings_best_mask v_Holdings_best_mask pass0 (pa_cons (pe_ix ix_tup (pv 1) (pv 3) (fun _ _ => rfl)) pa_nil)) (pg_sub (pv 2) (pv 3) set_list))))
  (pss_one (ps_ret (pe_callTy call_tuple_of (by rfl) T.b_tuple (by decide +kernel) (pa_cons (pv 2) pa_nil))))))), ?_⟩
    obtain ⟨S1, e1, e2⟩ := Option.bind_eq_some_iff.mp e
    refine ⟨_, rfl, a, _, rfl, .inr (seqt ha), fun pa hpa => ?_⟩
    have B1 := B.same (same_new (o := .lst st.v) hpa)
    have g1 : FrH L H _ := FrH.of_same (same_new (o := .lst st.v) hpa)
    have ha1 := g1 a _ ha (B.notTup ha)
    refine ⟨_, rfl, a, st, rfl, ha1, fun q H2 hq s2 hq2 => ?_⟩
    have np : ¬ L.own pa := B.notNone hpa
    have nq : ¬ L.own q := B1.notNone hq
    have B2 := B1.same s2
    have g2 := g1.trans (FrH.of_same (L := L) s2)
    have hpa2' := upd_same (H := H) (a := pa) (o := .lst st.v)
    have hpa2 := s2 _ _ (upd_same (H := H) (a := pa) (o := .lst st.v))
    refine ⟨q, rfl, ⟨_, seql hq2⟩, for_list (K := K) (a := q) (xs := (seatAts st).map fun i => V.int (i : Nat)) (fun i σ H3 => ∃ (v1 : Option V) (Si : HS), σ = [some (.ref L.kn), some (.ref a), some (.ref pa), v1] ∧ HoldAt K L Si H3 ∧ FrH L H H3 ∧ H3 pa = some (.lst st.v) ∧ H3 q = some (.lst ((seatAts st).map fun i => V.int (i : Nat))) ∧ turnL bestSeat st ((seatAts st).drop i) Si = some S1) ?_ ?_ ?_ ?_⟩
    · exact ⟨_, S, rfl, B2, g2, hpa2, hq2, e1⟩
    · rintro i σ H3 hi ⟨v1, Si, rfl, B3, g3, hpa3, hq3, t3⟩
      exact seql hq3
    · rintro i x σ H3 hx ⟨v1, Si, rfl, B3, g3, hpa3, hq3, t3⟩
      have ha3 := g3 a _ ha (B.notTup ha)
      rw [List.getElem?_map] at hx
      obtain ⟨at_, hat, rfl⟩ := Option.map_eq_some_iff.mp hx
      rw [List.drop_eq_getElem_cons (List.getElem?_eq_some_iff.mp hat).1, (List.getElem?_eq_some_iff.mp hat).2] at t3
      obtain ⟨z, hz, t3a⟩ := Option.bind_eq_some_iff.mp t3
      obtain ⟨⟨Sj, y⟩, hy, t3b⟩ := Option.bind_eq_some_iff.mp t3a
      by_cases ez : y = z
      rotate_left
      · rw [if_neg ez] at t3b
        cases t3b
      rw [if_pos ez] at t3b
      subst ez
      refine ⟨_, rfl, _, _, _, rfl, B3.ko, rfl, _, rfl, _, rfl, a, _, _, _, rfl, rfl, seqt ha3, atI_nat (j := at_) (intAt_v hz), L, Si, Sj, y, _, rfl, B3, hy, fun H4 B4 f4 => ?_⟩
      have hpa4 := f4 pa _ hpa3 np
      have hlt : at_ < st.v.length := (List.getElem?_eq_some_iff.mp (intAt_v hz)).1
      refine ⟨_, rfl, _, rfl, pa, st.v, _, at_, rfl, rfl, hpa4, ixN_nat hlt, ?_⟩
      have est : st.v.set at_ (.int y) = st.v := by
        have h1 := (List.getElem?_eq_some_iff.mp (intAt_v hz)).2
        rw [← h1]
        exact List.set_getElem_self _
      rw [est]
      exact ⟨_, Sj, rfl, B4.other np, (g3.trans f4).new hpa, upd_same, (upd_ne (ne_of_none hpa2' hq).symm).trans (f4 q _ hq3 nq), t3b⟩
    · rintro σ H3 ⟨v1, Si, rfl, B3, g3, hpa3, hq3, t3⟩
      rw [List.length_map, List.drop_length] at t3
      obtain rfl : Si = S1 := Option.some.inj t3
      have ha3 := g3 a _ ha (B.notTup ha)
      refine ⟨_, rfl, a, st, rfl, ha3, fun q2 H5 hq5 s5 hq6 => ?_⟩
      have nq2 : ¬ L.own q2 := B3.notNone hq5
      have npq2 : pa ≠ q2 := ne_of_none hpa3 hq5
      refine ⟨q2, rfl, ⟨_, seql hq6⟩, for_list (K := K) (a := q2) (xs := (maskAts st).map fun i => V.int (i : Nat)) (fun i σ H6 => ∃ (v1 : Option V) (Sk : HS), σ = [some (.ref L.kn), some (.ref a), some (.ref pa), v1] ∧ HoldAt K L Sk H6 ∧ FrH L H H6 ∧ H6 pa = some (.lst st.v) ∧ H6 q2 = some (.lst ((maskAts st).map fun i => V.int (i : Nat))) ∧ turnL bestMask st ((maskAts st).drop i) Sk = some S') ?_ ?_ ?_ ?_⟩
      · exact ⟨_, Si, rfl, B3.same s5, g3.trans (FrH.of_same s5), s5 _ _ hpa3, hq6, e2⟩
      · rintro i σ H6 hi ⟨v1, Sk, rfl, B6, g6, hpa6, hq7, t6⟩
        exact seql hq7
      · rintro i x σ H6 hx ⟨v1, Sk, rfl, B6, g6, hpa6, hq7, t6⟩
        have ha6 := g6 a _ ha (B.notTup ha)
        rw [List.getElem?_map] at hx
        obtain ⟨at_, hat, rfl⟩ := Option.map_eq_some_iff.mp hx
        rw [List.drop_eq_getElem_cons (List.getElem?_eq_some_iff.mp hat).1, (List.getElem?_eq_some_iff.mp hat).2] at t6
        obtain ⟨z, hz, t6a⟩ := Option.bind_eq_some_iff.mp t6
        obtain ⟨⟨Sj, y⟩, hy, t6b⟩ := Option.bind_eq_some_iff.mp t6a
        by_cases ez : y = z
        rotate_left
        · rw [if_neg ez] at t6b
          cases t6b
        rw [if_pos ez] at t6b
        subst ez
        refine ⟨_, rfl, _, _, _, rfl, B6.ko, rfl, _, rfl, _, rfl, a, _, _, _, rfl, rfl, seqt ha6, atI_nat (j := at_) (intAt_v hz), L, Sk, Sj, y, _, rfl, B6, hy, fun H4 B4 f4 => ?_⟩
        have hpa4 := f4 pa _ hpa6 np
        have hlt : at_ < st.v.length := (List.getElem?_eq_some_iff.mp (intAt_v hz)).1
        refine ⟨_, rfl, _, rfl, pa, st.v, _, at_, rfl, rfl, hpa4, ixN_nat hlt, ?_⟩
        have est : st.v.set at_ (.int y) = st.v := by
          have h1 := (List.getElem?_eq_some_iff.mp (intAt_v hz)).2
          rw [← h1]
          exact List.set_getElem_self _
        rw [est]
        exact ⟨_, Sj, rfl, B4.other np, (g6.trans f4).new hpa, upd_same, (upd_ne npq2.symm).trans (f4 q2 _ hq7 nq2), t6b⟩
      · rintro σ H6 ⟨v1, Sk, rfl, B6, g6, hpa6, hq7, t6⟩
        rw [List.length_map, List.drop_length] at t6
        obtain rfl : Sk = S' := Option.some.inj t6
        refine ⟨_, rfl, pa, _, rfl, .inl ⟨seql hpa6, fun r hr6 => ?_⟩⟩
        exact k r _ (g6.free (B6.notNone hr6) hr6) (B6.same (same_new hr6)) (g6.trans (FrH.of_same (same_new hr6))) upd_same
theorem sc_key_of : FnScope ["known", "step", "parts", "at"] ["known", "step"] (defScope s_key_of) := ⟨rfl, rfl, rfl, by decide +kernel, rfl, by decide +kernel, by decide +kernel⟩
theorem bi_key_of {K : PySem.W.Frag} {f : Addr} {fd : FuncData} (F : FunD K "key_of" "key_of" (defArgs s_key_of) (defBody s_key_of) (defScope s_key_of) [] [] f fd) : Binds K fd ["known", "step"] [] := F.bindsN fun _ _ _ _ _ _ us hl => match us, hl with | [_, _], _ => rfl
theorem ok_key_of (T : Tx K mg) : Gd P w K mg base CX0 4 (He.fAd K ("key_of", none)) ["known", "step"] [] (spKey K) := by
  obtain ⟨fd_Holdings_root_at, G_Holdings_root_at, p_Holdings_root_at, ds_Holdings_root_at, v_Holdings_root_at, b_Holdings_root_at⟩ := ok_Holdings_root_at (P := P) (w := w) (base := base) T
  obtain ⟨fd_Holdings_mask_thing, G_Holdings_mask_thing, p_Holdings_mask_thing, ds_Holdings_mask_thing, v_Holdings_mask_thing, b_Holdings_mask_thing⟩ := ok_Holdings_mask_thing (P := P) (w := w) (base := base) T
  obtain ⟨fd_Holdings_slot_thing, G_Holdings_slot_thing, p_Holdings_slot_thing, ds_Holdings_slot_thing, v_Holdings_slot_thing, b_Holdings_slot_thing⟩ := ok_Holdings_slot_thing (P := P) (w := w) (base := base) T
  obtain ⟨fd_seat_places, G_seat_places, p_seat_places, ds_seat_places, v_seat_places, b_seat_places⟩ := ok_seat_places (P := P) (w := w) (base := base) T
  obtain ⟨fd_mask_places, G_mask_places, p_mask_places, ds_mask_places, v_mask_places, b_mask_places⟩ := ok_mask_places (P := P) (w := w) (base := base) T
  refine gd_mk T.d_key_of sc_key_of (fun F => bn (bi_key_of F)) (fun vs H Q E h => ?_) (fun cdv A outer s H vs Q E hr h => ?_)
  · obtain ⟨_, _, _, _, _, _, rfl, _⟩ := h
    rfl
  · obtain ⟨L, S, S', a, st, key, rfl, B, ha, e, k⟩ := h
    refine ⟨_, (pss_cons (ps_set (i := 2) sc_key_of.nd rfl (Or.inl rfl) (pe_callTy call_list_of (by rfl) T.b_list (by decide +kernel) (pa_cons (pv 1) pa_nil)))
  (pss_cons (ps_asg pe_str (pg_sub (pv 2) pe_int set_list))
  (pss_cons (ps_for PassesOwn.never rfl (pi_list (pe_call G_seat_places (hr.mono (by decide)) rfl T.g_seat_places p_seat_places b_seat_places v_seat_places pass0 (pa_cons (pv 1) pa_nil))) (pg_name (i := 3) sc_key_of.nd rfl (Or.inl rfl))
  (pss_one (ps_asg (pe_meth (pv 0) T.c_Holdings T.m_Holdings_root_at G_Holdings_root_at (hr.mono (by decide)) b_Holdings_root_at v_Holdings_root_at pass0 (pa_cons (pe_ix ix_tup (pv 1) (pv 3) (fun _ _ => rfl)) pa_nil)) (pg_sub (pv 2) (pv 3) set_list))))
  (pss_cons (ps_for PassesOwn.never rfl (pi_list (pe_call G_mask_places (hr.mono (by decide)) rfl T.g_mask_places p_mask_places b_mask_places v_mask_places pass0 (pa_cons (pv 1) pa_nil))) (pg_name (i := 3) sc_key_of.nd rfl (Or.inl rfl))
  (pss_one (ps_asg (pe_meth (pv 0) T.c_Holdings T.m_Holdings_mask_thing G_Holdings_mask_thing (hr.mono (by decide)) b_Holdings_mask_thing v_Holdings_mask_thing pass0 (pa_cons (pe_ix ix_tup (pv 1) (pv 3) (fun _ _ => rfl)) pa_nil)) (pg_sub (pv 2) (pv 3) set_list))))
  (C8.pss_cut (ps_if (pt_cmpR op_eq (pe_ix ix_tup (pv 1) pe_int (fun _ _ => rfl)) pe_str (nomark _))
  (pss_one (ps_asg (pe_meth (pv 0) T.c_Holdings T.m_Holdings_slot_thing G_Holdings_slot_thing (hr.mono (by decide)) b_Holdings_slot_thing v_Holdings_slot_thing pass0 (pa_cons (pe_ix ix_tup (pv 1) pe_int (fun _ _ => rfl)) pa_nil)) (pg_sub (pv 2) pe_int set_list)))
  pss_nil)
  (C8.pss_cut (ps_if (pt_cmpR op_in_seq (pe_ix ix_tup (pv 1) pe_int (fun _ _ => rfl)) (pe_tup (pa_cons pe_str (pa_cons pe_str (pa_cons pe_str (pa_cons pe_str pa_nil))))) rfl)
  (pss_one (ps_expr (pe_bm PySem.F.plainAttrs_list PySem.F.slot_list_append PySem.F.type_list_append mt_append (pv 2) (pa_cons (pe_fld (pv 0) rfl) pa_nil))))
  pss_nil)
  (pss_one (ps_ret (pe_callTy call_tuple_of (by rfl) T.b_tuple (by decide +kernel) (pa_cons (pv 2) pa_nil)))))))))), ?_⟩
    unfold keyOf at e
    by_cases hk : 1 < st.k.length ∧ st.k.length < 100
    rotate_left
    · rw [if_neg hk] at e
      cases e
    rw [if_pos hk] at e
    obtain ⟨⟨S1, k1⟩, e1, e⟩ := Option.bind_eq_some_iff.mp e
    obtain ⟨⟨S2, k2⟩, e2, e⟩ := Option.bind_eq_some_iff.mp e
    obtain ⟨⟨S3, k3⟩, e3, e4⟩ := Option.bind_eq_some_iff.mp e
    refine ⟨_, rfl, a, _, rfl, .inr (seqt ha), fun pa hpa => ?_⟩
    have np : ¬ L.own pa := B.notNone hpa
    have hv1 : 1 < st.v.length := by
      unfold Sx.v
      rw [List.length_map]
      exact hk.1
    refine ⟨_, rfl, pa, st.v, _, 1, rfl, rfl, upd_same, ixN_nat hv1, ?_⟩
    rw [upd_upd]
    have ek : st.v.set 1 (.str "") = (st.k.set 1 (Sum.inr "")).map kV := by
      unfold Sx.v
      rw [List.map_set]
      rfl
    rw [ek]
    have g1 : FrH L H (upd H pa (.lst ((st.k.set 1 (Sum.inr "")).map kV))) := FrH.of_same (same_new hpa)
    have B1 := B.same (same_new (o := .lst ((st.k.set 1 (Sum.inr "")).map kV)) hpa)
    have ha1 := g1 a _ ha (B.notTup ha)
    refine ⟨_, rfl, a, st, rfl, ha1, fun q H2 hq s2 hq2 => ?_⟩
    have nq : ¬ L.own q := B1.notNone hq
    have B2 := B1.same s2
    have g2 := g1.trans (FrH.of_same (L := L) s2)
    have hpa2' := upd_same (H := H) (a := pa) (o := .lst ((st.k.set 1 (Sum.inr "")).map kV))
    have hpa2 := s2 _ _ hpa2'
    refine ⟨q, rfl, ⟨_, seql hq2⟩, for_list (K := K) (a := q) (xs := (seatAts st).map fun i => V.int (i : Nat)) (fun i σ H3 => ∃ (v1 : Option V) (Si : HS) (ks : List L2.Key), σ = [some (.ref L.kn), some (.ref a), some (.ref pa), v1] ∧ HoldAt K L Si H3 ∧ FrH L H H3 ∧ H3 pa = some (.lst (ks.map kV)) ∧ ks.length = st.k.length ∧ H3 q = some (.lst ((seatAts st).map fun i => V.int (i : Nat))) ∧ keyL rootAt st ((seatAts st).drop i) (Si, ks) = some (S1, k1)) ?_ ?_ ?_ ?_⟩
    · exact ⟨_, S, _, rfl, B2, g2, hpa2, List.length_set, hq2, e1⟩
    · rintro i σ H3 hi ⟨v1, Si, ks, rfl, B3, g3, hpa3, hks, hq3, t3⟩
      exact seql hq3
    · rintro i x σ H3 hx ⟨v1, Si, ks, rfl, B3, g3, hpa3, hks, hq3, t3⟩
      have ha3 := g3 a _ ha (B.notTup ha)
      rw [List.getElem?_map] at hx
      obtain ⟨at_, hat, rfl⟩ := Option.map_eq_some_iff.mp hx
      rw [List.drop_eq_getElem_cons (List.getElem?_eq_some_iff.mp hat).1, (List.getElem?_eq_some_iff.mp hat).2] at t3
      obtain ⟨z, hz, t3a⟩ := Option.bind_eq_some_iff.mp t3
      obtain ⟨⟨Sj, y⟩, hy, t3b⟩ := Option.bind_eq_some_iff.mp t3a
      obtain ⟨t, ht, t3c⟩ := Option.bind_eq_some_iff.mp t3b
      obtain rfl : y = .int t := asInt_eq ht
      refine ⟨_, rfl, _, _, _, rfl, B3.ko, rfl, _, rfl, _, rfl, a, _, _, _, rfl, rfl, seqt ha3, atI_nat (j := at_) (intAt_v hz), L, Si, Sj, z, _, rfl, B3, hy, fun H4 B4 f4 => ?_⟩
      have hpa4 := f4 pa _ hpa3 np
      have hlt : at_ < (ks.map kV).length := by
        have h1 := (List.getElem?_eq_some_iff.mp (intAt_v hz)).1
        unfold Sx.v at h1
        rw [List.length_map] at h1 ⊢
        omega
      refine ⟨_, rfl, _, rfl, pa, ks.map kV, _, at_, rfl, rfl, hpa4, ixN_nat hlt, ?_⟩
      have est : (ks.map kV).set at_ (.int t) = (ks.set at_ (Sum.inl t)).map kV := by
        rw [List.map_set]
        rfl
      rw [est]
      exact ⟨_, Sj, _, rfl, B4.other np, (g3.trans f4).new hpa, upd_same, by rw [List.length_set]; exact hks, (upd_ne (ne_of_none hpa2' hq).symm).trans (f4 q _ hq3 nq), t3c⟩
    · rintro σ H3 ⟨v1, S1, k1, rfl, B3, g3, hpa3, hk1, hq3, t3⟩
      rw [List.length_map, List.drop_length] at t3
      cases t3
      have ha3 := g3 a _ ha (B.notTup ha)
      refine ⟨_, rfl, a, st, rfl, ha3, fun q2 H5 hq5 s5 hq6 => ?_⟩
      have nq2 : ¬ L.own q2 := B3.notNone hq5
      have npq2 : pa ≠ q2 := ne_of_none hpa3 hq5
      refine ⟨q2, rfl, ⟨_, seql hq6⟩, for_list (K := K) (a := q2) (xs := (maskAts st).map fun i => V.int (i : Nat)) (fun i σ H3 => ∃ (v1 : Option V) (Si : HS) (ks : List L2.Key), σ = [some (.ref L.kn), some (.ref a), some (.ref pa), v1] ∧ HoldAt K L Si H3 ∧ FrH L H H3 ∧ H3 pa = some (.lst (ks.map kV)) ∧ ks.length = st.k.length ∧ H3 q2 = some (.lst ((maskAts st).map fun i => V.int (i : Nat))) ∧ keyL maskThing st ((maskAts st).drop i) (Si, ks) = some (S2, k2)) ?_ ?_ ?_ ?_⟩
      · exact ⟨_, S1, k1, rfl, B3.same s5, g3.trans (FrH.of_same s5), s5 _ _ hpa3, hk1, hq6, e2⟩
      · rintro i σ H3 hi ⟨v1, Si, ks, rfl, B3, g3, hpa3, hks, hq3, t3⟩
        exact seql hq3
      · rintro i x σ H3 hx ⟨v1, Si, ks, rfl, B3, g3, hpa3, hks, hq3, t3⟩
        have ha3 := g3 a _ ha (B.notTup ha)
        rw [List.getElem?_map] at hx
        obtain ⟨at_, hat, rfl⟩ := Option.map_eq_some_iff.mp hx
        rw [List.drop_eq_getElem_cons (List.getElem?_eq_some_iff.mp hat).1, (List.getElem?_eq_some_iff.mp hat).2] at t3
        obtain ⟨z, hz, t3a⟩ := Option.bind_eq_some_iff.mp t3
        obtain ⟨⟨Sj, y⟩, hy, t3b⟩ := Option.bind_eq_some_iff.mp t3a
        obtain ⟨t, ht, t3c⟩ := Option.bind_eq_some_iff.mp t3b
        obtain rfl : y = .int t := asInt_eq ht
        refine ⟨_, rfl, _, _, _, rfl, B3.ko, rfl, _, rfl, _, rfl, a, _, _, _, rfl, rfl, seqt ha3, atI_nat (j := at_) (intAt_v hz), L, Si, Sj, z, _, rfl, B3, hy, fun H4 B4 f4 => ?_⟩
        have hpa4 := f4 pa _ hpa3 np
        have hlt : at_ < (ks.map kV).length := by
          have h1 := (List.getElem?_eq_some_iff.mp (intAt_v hz)).1
          unfold Sx.v at h1
          rw [List.length_map] at h1 ⊢
          omega
        refine ⟨_, rfl, _, rfl, pa, ks.map kV, _, at_, rfl, rfl, hpa4, ixN_nat hlt, ?_⟩
        have est : (ks.map kV).set at_ (.int t) = (ks.set at_ (Sum.inl t)).map kV := by
          rw [List.map_set]
          rfl
        rw [est]
        exact ⟨_, Sj, _, rfl, B4.other np, (g3.trans f4).new hpa, upd_same, by rw [List.length_set]; exact hks, (upd_ne npq2.symm).trans (f4 q2 _ hq3 nq2), t3c⟩
      · rintro σ H6 ⟨v2, S2, k2, rfl, B6, g6, hpa6, hks6, hq7, t6⟩
        rw [List.length_map, List.drop_length] at t6
        cases t6
        have ha6 := g6 a _ ha (B.notTup ha)
        refine ⟨fun σ' H' => ∃ v1 : Option V, σ' = [some (.ref L.kn), some (.ref a), some (.ref pa), v1] ∧ HoldAt K L S3 H' ∧ FrH L H H' ∧ H' pa = some (.lst (k3.map kV)) ∧ k3.length = st.k.length, ⟨_, rfl, a, _, _, _, rfl, rfl, seqt ha6, atI_nat (j := 0) st.v0, rfl, _, rfl, ?_⟩, ?_⟩
        · by_cases ew : st.w = "bring"
          · rw [if_pos ew] at e3
            rw [decide_eq_true (show V.str st.w = V.str "bring" by rw [ew])]
            obtain ⟨i, hi, e3a⟩ := Option.bind_eq_some_iff.mp e3
            obtain ⟨⟨Sz, y⟩, hz, e3b⟩ := Option.bind_eq_some_iff.mp e3a
            obtain ⟨t, ht, e3c⟩ := Option.bind_eq_some_iff.mp e3b
            obtain rfl : y = .int t := asInt_eq ht
            cases e3c
            refine iteT ⟨_, rfl, _, _, _, rfl, B6.ko, rfl, _, rfl, a, _, _, _, rfl, rfl, seqt ha6, atI_nat (j := 2) (intAt_v hi), L, _, _, i, _, rfl, B6, hz, fun H7 B7 f7 => ?_⟩
            have hpa7 := f7 pa _ hpa6 np
            have hlt : 2 < (k2.map kV).length := by
              have h1 := (List.getElem?_eq_some_iff.mp (intAt_v hi)).1
              unfold Sx.v at h1
              rw [List.length_map] at h1 ⊢
              omega
            refine ⟨_, rfl, pa, k2.map kV, _, 2, rfl, rfl, hpa7, ixN_nat hlt, ?_⟩
            have est : (k2.map kV).set 2 (.int t) = (k2.set 2 (Sum.inl t)).map kV := by
              rw [List.map_set]
              rfl
            rw [est]
            exact ⟨_, rfl, B7.other np, (g6.trans f7).new hpa, upd_same, by rw [List.length_set]; exact hks6⟩
          · rw [if_neg ew] at e3
            cases e3
            rw [decide_eq_false (show ¬ V.str st.w = V.str "bring" from fun z => ew (V.str.inj z))]
            exact iteF ⟨_, rfl, B6, g6, hpa6, hks6⟩
        rintro σ' H7 ⟨v3, rfl, B7, g7, hpa7, hks7⟩
        have ha7 := g7 a _ ha (B.notTup ha)
        have e4' := Option.some.inj e4
        refine ⟨fun σ' H' => ∃ v1 : Option V, σ' = [some (.ref L.kn), some (.ref a), some (.ref pa), v1] ∧ HoldAt K L S' H' ∧ FrH L H H' ∧ H' pa = some (.lst (key.map kV)), ⟨_, rfl, a, _, _, _, rfl, rfl, seqt ha7, atI_nat (j := 0) st.v0, (by show 4 ≤ sizeLine; decide), fun q8 hq8 => ⟨q8, _, rfl, .inr (seqt upd_same), rfl, rfl, _, rfl, ?_⟩⟩, ?_⟩
        · have s8 := same_new (o := .tup [.str "load", .str "spread", .str "shift", .str "gather"]) hq8
          have B8 := B7.same s8
          have g8 := g7.trans (FrH.of_same (L := L) s8)
          have hpa8 := s8 _ _ hpa7
          show ite (wIn st.w ["load", "spread", "shift", "gather"] = true) _ _
          by_cases ew : wIn st.w ["load", "spread", "shift", "gather"] = true
          · rw [if_pos ew] at e4' ⊢
            cases e4'
            refine ⟨_, rfl, .inl ⟨rfl, _, .inl (.inl hpa8)⟩, _, rfl, _, _, _, _, _, rfl, B8.ko, T.c_Holdings, T.n_Holdings_age, L_Holdings_age, pa, _, _, rfl, rfl, hpa8, ?_, ?_⟩
            · rw [List.length_map, hks7]
              exact small1000 (by omega)
            · refine ⟨_, rfl, B8.other np, g8.new hpa, ?_⟩
              rw [upd_same, List.map_append]
              rfl
          · rw [if_neg ew] at e4' ⊢
            cases e4'
            exact ⟨_, rfl, B8, g8, hpa8⟩
        rintro σ' H9 ⟨v4, rfl, B9, g9, hpa9⟩
        refine ⟨_, rfl, pa, _, rfl, .inl ⟨seql hpa9, fun r hr6 => ?_⟩⟩
        exact k r _ (g9.free (B9.notNone hr6) hr6) (B9.same (same_new hr6)) (g9.trans (FrH.of_same (same_new hr6))) upd_same
end
end Rb
set_option Elab.async false
set_option linter.all false
set_option maxRecDepth 100000
set_option maxHeartbeats 4000000
/-! the shortener: steps noted -/
namespace Rb
open PySem PySem.Spec PyProof.Rows L2
def rootsSet (S : HS) (t : Int) (r : V) : Option HS := if 0 ≤ t ∧ t.toNat < S.roots.length then some { S with roots := S.roots.set t.toNat r } else none
def nsNum (S : HS) (s : Sx) (t : Int) : Option HS := if s.w = "number" then (intAt s 2).bind fun x => if S.written.length < 500 then some { S with written := putK S.written (Sum.inl t) (.int x) } else none else some S
def nsCopy (S : HS) (s : Sx) (t : Int) : Option HS := if s.w = "copy" then (intAt s 2).bind fun i => (rootAt S i).bind fun q => rootsSet q.1 t q.2 else some S
def nsBring (S : HS) (s : Sx) (t : Int) : Option HS := if s.w = "bring" then (intAt s 2).bind fun i => (slotThing S i).bind fun q => (atV q.1.roots q.2).bind fun r => rootsSet q.1 t r else some S
def nsPut (S : HS) (p t : Int) : Option HS := if S.seats.length < 500 then some { S with seats := putK S.seats (Sum.inl p) (.int t) } else none
def nsHeld (S : HS) (s : Sx) (t : Int) : Option HS := (intAt s 1).bind fun p =>
  if (valV S.seats (Sum.inl p : L2.Key)).getD .non = .non then nsPut S p t
  else (atV S.roots (.int t)).bind fun r => if flatV ((valV S.seats (Sum.inl p : L2.Key)).getD .non) = true ∧ [V.int t, r].all flatV = true ∧ inV ((valV S.seats (Sum.inl p : L2.Key)).getD .non) [.int t, r] = false then nsPut S p t else none
def noteSeat (S : HS) (s : Sx) : Option HS := (keyOf S s).bind fun q => (thingOf q.1 q.2).bind fun z => (asInt z.2).bind fun t => (nsNum z.1 s t).bind fun S3 => (nsCopy S3 s t).bind fun S4 => (nsBring S4 s t).bind fun S5 => nsHeld S5 s t
def noteSlot (S : HS) (s : Sx) : Option HS := (keyOf S s).bind fun q => (thingOf q.1 q.2).bind fun z => (asInt z.2).bind fun t => (intAt s 2).bind fun i => (rootAt z.1 i).bind fun q2 => (rootsSet q2.1 t q2.2).bind fun S5 => (intAt s 1).bind fun p =>
  if scal ((valV S5.slots (Sum.inl p : L2.Key)).getD .non) (.int t) = true ∧ (valV S5.slots (Sum.inl p : L2.Key)).getD .non ≠ .int t ∧ S5.slots.length < 500 then some { S5 with slots := putK S5.slots (Sum.inl p) (.int t) } else none
def noteStep (S : HS) (s : Sx) : Option HS := if laysSeat s = true then noteSeat S s else if laysMask s = true then none else if s.w = "save" then noteSlot S s else some (if writesRow s = true then { S with age := S.age + 1 } else S)
def spNoteS (K : PySem.W.Frag) (f : HS → Sx → Option HS) : Sp := fun vs H Q _ => ∃ (L : HL) (S S' : HS) (a : Addr) (s : Sx), vs = [.ref L.kn, .ref a] ∧ HoldAt K L S H ∧ H a = some (.tup s.v) ∧ f S s = some S' ∧ ∀ H', HoldAt K L S' H' → FrH L H H' → Q (.bl false) H'
theorem nsPut_ok {S S' : HS} {p t : Int} (h : nsPut S p t = some S') : S.seats.length < sizeLine ∧ S' = { S with seats := putK S.seats (Sum.inl p) (.int t) } := by
  unfold nsPut at h
  by_cases c : S.seats.length < 500
  · rw [if_pos c] at h
    exact ⟨Nat.lt_of_lt_of_le c (by rw [sizeLine_eq]; decide), (Option.some.inj h).symm⟩
  · rw [if_neg c] at h
    cases h
theorem rootsSet_ok {S S' : HS} {t : Int} {r : V} (h : rootsSet S t r = some S') : ∃ i : Nat, t = i ∧ i < S.roots.length ∧ S' = { S with roots := S.roots.set i r } := by
  unfold rootsSet at h
  by_cases c : 0 ≤ t ∧ t.toNat < S.roots.length
  · rw [if_pos c] at h
    exact ⟨t.toNat, (Int.toNat_of_nonneg c.1).symm, c.2, (Option.some.inj h).symm⟩
  · rw [if_neg c] at h
    cases h
section
variable {P : Program} {w : World} {K : PySem.W.Frag} {mg : Str → Option Value} {base : Heap}
theorem sc_note_seat : FnScope ["known", "step", "thing", "held"] ["known", "step"] (defScope s_note_seat) := ⟨rfl, rfl, rfl, by decide +kernel, rfl, by decide +kernel, by decide +kernel⟩
theorem bi_note_seat {K : PySem.W.Frag} {f : Addr} {fd : FuncData} (F : FunD K "note_seat" "note_seat" (defArgs s_note_seat) (defBody s_note_seat) (defScope s_note_seat) [] [] f fd) : Binds K fd ["known", "step"] [] := F.bindsN fun _ _ _ _ _ _ us hl => match us, hl with | [_, _], _ => rfl
theorem ok_note_seat (T : Tx K mg) : Gd P w K mg base CX0 5 (He.fAd K ("note_seat", none)) ["known", "step"] [] (spNoteS K noteSeat) := by
  obtain ⟨fd_Holdings_root_at, G_Holdings_root_at, p_Holdings_root_at, ds_Holdings_root_at, v_Holdings_root_at, b_Holdings_root_at⟩ := ok_Holdings_root_at (P := P) (w := w) (base := base) T
  obtain ⟨fd_Holdings_slot_thing, G_Holdings_slot_thing, p_Holdings_slot_thing, ds_Holdings_slot_thing, v_Holdings_slot_thing, b_Holdings_slot_thing⟩ := ok_Holdings_slot_thing (P := P) (w := w) (base := base) T
  obtain ⟨fd_Holdings_thing_of, G_Holdings_thing_of, p_Holdings_thing_of, ds_Holdings_thing_of, v_Holdings_thing_of, b_Holdings_thing_of⟩ := ok_Holdings_thing_of (P := P) (w := w) (base := base) T
  obtain ⟨fd_key_of, G_key_of, p_key_of, ds_key_of, v_key_of, b_key_of⟩ := ok_key_of (P := P) (w := w) (base := base) T
  refine gd_mk T.d_note_seat sc_note_seat (fun F => bn (bi_note_seat F)) (fun vs H Q E h => ?_) (fun cdv A outer s H vs Q E hr h => ?_)
  · obtain ⟨_, _, _, _, _, rfl, _⟩ := h
    rfl
  · obtain ⟨L, S, S', a, st, rfl, B, ha, e, k⟩ := h
    have hu := hu_of hr
    refine ⟨_, (pss_cons (ps_set (i := 2) sc_note_seat.nd rfl (Or.inl rfl) (pe_meth (pv 0) T.c_Holdings T.m_Holdings_thing_of G_Holdings_thing_of (hr.mono (by decide)) b_Holdings_thing_of v_Holdings_thing_of pass0 (pa_cons (pe_call G_key_of (hr.mono (by decide)) rfl T.g_key_of p_key_of b_key_of v_key_of pass0 (pa_cons (pv 0) (pa_cons (pv 1) pa_nil))) pa_nil)))
  (C8.pss_cut (ps_if (pt_cmpR op_eq (pe_ix ix_tup (pv 1) pe_int (fun _ _ => rfl)) pe_str (nomark _))
  (pss_one (ps_dput hu (pe_fld (pv 0) rfl) (pv 2) (pe_ix ix_tup (pv 1) pe_int (fun _ _ => rfl)) rfl))
  pss_nil)
  (C8.pss_cut (ps_if (pt_cmpR op_eq (pe_ix ix_tup (pv 1) pe_int (fun _ _ => rfl)) pe_str (nomark _))
  (pss_one (ps_asg (pe_meth (pv 0) T.c_Holdings T.m_Holdings_root_at G_Holdings_root_at (hr.mono (by decide)) b_Holdings_root_at v_Holdings_root_at pass0 (pa_cons (pe_ix ix_tup (pv 1) pe_int (fun _ _ => rfl)) pa_nil)) (pg_sub (pe_fld (pv 0) rfl) (pv 2) set_list)))
  pss_nil)
  (C8.pss_cut (ps_if (pt_cmpR op_eq (pe_ix ix_tup (pv 1) pe_int (fun _ _ => rfl)) pe_str (nomark _))
  (pss_one (ps_asg (pe_ix ix_list (pe_fld (pv 0) rfl) (pe_meth (pv 0) T.c_Holdings T.m_Holdings_slot_thing G_Holdings_slot_thing (hr.mono (by decide)) b_Holdings_slot_thing v_Holdings_slot_thing pass0 (pa_cons (pe_ix ix_tup (pv 1) pe_int (fun _ _ => rfl)) pa_nil)) (fun _ _ => rfl)) (pg_sub (pe_fld (pv 0) rfl) (pv 2) set_list)))
  pss_nil)
  (pss_cons (ps_set (i := 3) sc_note_seat.nd rfl (Or.inl rfl) (pe_dget1 hu (pe_fld (pv 0) rfl) (pe_ix ix_tup (pv 1) pe_int (fun _ _ => rfl)) ⟨rfl, rfl, rfl, rfl⟩))
  (pss_cons (ps_if (PW.pt (pw_and (pt_cmpR op_notN (pv 3) pe_non (nomark _)) (pw_and1 (pt_cmpR op_in_seq (pv 3) (pe_tup (pa_cons (pv 2) (pa_cons (pe_ix ix_list (pe_fld (pv 0) rfl) (pv 2) (fun _ _ => rfl)) pa_nil))) rfl))))
  (pss_one ps_never)
  pss_nil)
  (pss_cons (ps_dput hu (pe_fld (pv 0) rfl) (pe_ix ix_tup (pv 1) pe_int (fun _ _ => rfl)) (pv 2) rfl)
  (pss_one (ps_ret pe_bl))))))))), ?_⟩
    obtain ⟨⟨S1, key⟩, e1, e⟩ := Option.bind_eq_some_iff.mp e
    obtain ⟨⟨S2, v2⟩, e2, e⟩ := Option.bind_eq_some_iff.mp e
    obtain ⟨t, et, e⟩ := Option.bind_eq_some_iff.mp e
    obtain ⟨S3, e3, e⟩ := Option.bind_eq_some_iff.mp e
    obtain ⟨S4, e4, e⟩ := Option.bind_eq_some_iff.mp e
    obtain ⟨S5, e5, e6⟩ := Option.bind_eq_some_iff.mp e
    obtain rfl : v2 = .int t := asInt_eq et
    refine ⟨_, rfl, _, _, _, rfl, B.ko, rfl, _, rfl, _, rfl, L, S, S1, a, st, key, rfl, B, ha, e1, fun q H1 hq B1 f1 hq1 => ?_⟩
    refine ⟨L, S1, S2, q, key, _, rfl, B1, hq1, e2, fun H2 B2 f2 => ?_⟩
    have g2 := f1.trans f2
    have ha2 := g2 a _ ha (B.notTup ha)
    refine ⟨fun σ' H' => σ' = [some (.ref L.kn), some (.ref a), some (.int t), none] ∧ HoldAt K L S3 H' ∧ FrH L H H', ⟨_, rfl, a, _, _, _, rfl, rfl, seqt ha2, atI_nat (j := 0) st.v0, rfl, _, rfl, ?_⟩, ?_⟩
    · unfold nsNum at e3
      by_cases ew : st.w = "number"
      · rw [if_pos ew] at e3
        rw [decide_eq_true (show V.str st.w = V.str "number" by rw [ew])]
        obtain ⟨i, hi, e3⟩ := Option.bind_eq_some_iff.mp e3
        by_cases hz : S2.written.length < 500
        rotate_left
        · rw [if_neg hz] at e3
          cases e3
        rw [if_pos hz] at e3
        cases e3
        have hz1 : S2.written.length < sizeLine := Nat.lt_of_lt_of_le hz (by rw [sizeLine_eq]; decide)
        exact iteT ⟨_, rfl, a, _, _, _, rfl, rfl, seqt ha2, atI_nat (j := 2) (intAt_v hi), _, rfl, _, _, _, _, _, rfl, B2.ko, T.c_Holdings, T.n_Holdings_written, L_Holdings_written, _, rfl, L.wr, _, rfl, .k (k := Sum.inl t) B2.wro hz1, rfl, B2.setWritten _, g2.trans (FrH.put (.inr (.inr (.inr (.inr (.inr (.inr rfl)))))))⟩
      · rw [if_neg ew] at e3
        cases e3
        rw [decide_eq_false (show ¬ V.str st.w = V.str "number" from fun z => ew (V.str.inj z))]
        exact iteF ⟨rfl, B2, g2⟩
    rintro σ' H3 ⟨rfl, B3, g3⟩
    have ha3 := g3 a _ ha (B.notTup ha)
    refine ⟨fun σ' H' => σ' = [some (.ref L.kn), some (.ref a), some (.int t), none] ∧ HoldAt K L S4 H' ∧ FrH L H H', ⟨_, rfl, a, _, _, _, rfl, rfl, seqt ha3, atI_nat (j := 0) st.v0, rfl, _, rfl, ?_⟩, ?_⟩
    · unfold nsCopy at e4
      by_cases ew : st.w = "copy"
      · rw [if_pos ew] at e4
        rw [decide_eq_true (show V.str st.w = V.str "copy" by rw [ew])]
        obtain ⟨i, hi, e4⟩ := Option.bind_eq_some_iff.mp e4
        obtain ⟨⟨Sy, r⟩, hy, e4⟩ := Option.bind_eq_some_iff.mp e4
        obtain ⟨j, rfl, hj, rfl⟩ := rootsSet_ok e4
        refine iteT ⟨_, rfl, _, _, _, rfl, B3.ko, rfl, _, rfl, a, _, _, _, rfl, rfl, seqt ha3, atI_nat (j := 2) (intAt_v hi), L, S3, Sy, i, _, rfl, B3, hy, fun H4 B4 f4 => ?_⟩
        exact ⟨_, rfl, _, _, _, _, _, rfl, B4.ko, T.c_Holdings, T.n_Holdings_roots, L_Holdings_roots, _, rfl, L.ro, Sy.roots, _, j, rfl, rfl, B4.roo, ixN_nat hj, rfl, B4.setRoots _, (g3.trans f4).trans (FrH.put (.inr (.inr (.inr (.inr (.inr (.inl rfl)))))))⟩
      · rw [if_neg ew] at e4
        cases e4
        rw [decide_eq_false (show ¬ V.str st.w = V.str "copy" from fun z => ew (V.str.inj z))]
        exact iteF ⟨rfl, B3, g3⟩
    rintro σ' H4 ⟨rfl, B4, g4⟩
    have ha4 := g4 a _ ha (B.notTup ha)
    refine ⟨fun σ' H' => σ' = [some (.ref L.kn), some (.ref a), some (.int t), none] ∧ HoldAt K L S5 H' ∧ FrH L H H', ⟨_, rfl, a, _, _, _, rfl, rfl, seqt ha4, atI_nat (j := 0) st.v0, rfl, _, rfl, ?_⟩, ?_⟩
    · unfold nsBring at e5
      by_cases ew : st.w = "bring"
      · rw [if_pos ew] at e5
        rw [decide_eq_true (show V.str st.w = V.str "bring" by rw [ew])]
        obtain ⟨i, hi, e5⟩ := Option.bind_eq_some_iff.mp e5
        obtain ⟨⟨Sy, y⟩, hy, e5⟩ := Option.bind_eq_some_iff.mp e5
        obtain ⟨r, hr5, e5⟩ := Option.bind_eq_some_iff.mp e5
        obtain ⟨m, rfl, hm⟩ := atV_at hr5
        obtain ⟨j, rfl, hj, rfl⟩ := rootsSet_ok e5
        refine iteT ⟨_, rfl, _, _, _, _, _, rfl, B4.ko, T.c_Holdings, T.n_Holdings_roots, L_Holdings_roots, _, rfl, _, _, _, rfl, B4.ko, rfl, _, rfl, a, _, _, _, rfl, rfl, seqt ha4, atI_nat (j := 2) (intAt_v hi), L, S4, Sy, i, _, rfl, B4, hy, fun H5 B5 f5 => ?_⟩
        refine ⟨L.ro, _, _, _, rfl, rfl, seql B5.roo, atI_nat (j := m) hm, ?_⟩
        exact ⟨_, rfl, _, _, _, _, _, rfl, B5.ko, T.c_Holdings, T.n_Holdings_roots, L_Holdings_roots, _, rfl, L.ro, Sy.roots, _, j, rfl, rfl, B5.roo, ixN_nat hj, rfl, B5.setRoots _, (g4.trans f5).trans (FrH.put (.inr (.inr (.inr (.inr (.inr (.inl rfl)))))))⟩
      · rw [if_neg ew] at e5
        cases e5
        rw [decide_eq_false (show ¬ V.str st.w = V.str "bring" from fun z => ew (V.str.inj z))]
        exact iteF ⟨rfl, B4, g4⟩
    rintro σ' H5 ⟨rfl, B5, g5⟩
    have ha5 := g5 a _ ha (B.notTup ha)
    obtain ⟨pp, hp, e6⟩ := Option.bind_eq_some_iff.mp e6
    refine ⟨_, rfl, _, _, _, _, _, rfl, B5.ko, T.c_Holdings, T.n_Holdings_seats, L_Holdings_seats, L.se, rfl, .inl ⟨_, .inl B5.seo⟩, _, rfl, a, _, _, _, rfl, rfl, seqt ha5, atI_nat (j := 1) (intAt_v hp), _, .k (k := Sum.inl pp) B5.seo, ?_⟩
    refine ⟨_, rfl, rfl, _, rfl, ?_⟩
    by_cases w1 : (valV S5.seats (Sum.inl pp : L2.Key)).getD .non = .non
    · rw [if_pos w1] at e6
      obtain ⟨hz, rfl⟩ := nsPut_ok e6
      rw [decide_eq_true w1]
      exact iteF (iteF ⟨_, rfl, _, rfl, _, _, _, _, _, rfl, B5.ko, T.c_Holdings, T.n_Holdings_seats, L_Holdings_seats, _, rfl, a, _, _, _, rfl, rfl, seqt ha5, atI_nat (j := 1) (intAt_v hp), L.se, _, rfl, .k (k := Sum.inl pp) B5.seo hz, k _ (B5.setSeats _) (g5.trans (FrH.put (.inr (.inl rfl))))⟩)
    · rw [if_neg w1] at e6
      rw [decide_eq_false w1]
      obtain ⟨r, er, e6⟩ := Option.bind_eq_some_iff.mp e6
      obtain ⟨m, em, hm⟩ := atV_at er
      by_cases w2 : flatV ((valV S5.seats (Sum.inl pp : L2.Key)).getD .non) = true ∧ [V.int t, r].all flatV = true ∧ inV ((valV S5.seats (Sum.inl pp : L2.Key)).getD .non) [.int t, r] = false
      rotate_left
      · rw [if_neg w2] at e6
        cases e6
      rw [if_pos w2] at e6
      obtain ⟨w2, w3, w4⟩ := w2
      obtain ⟨hz, rfl⟩ := nsPut_ok e6
      refine iteT ⟨_, rfl, _, rfl, _, rfl, _, _, _, _, _, rfl, B5.ko, T.c_Holdings, T.n_Holdings_roots, L_Holdings_roots, _, rfl, L.ro, _, _, _, rfl, em, seql B5.roo, atI_nat (j := m) hm, (by show 2 ≤ sizeLine; decide), fun q6 hq6 => ?_⟩
      have s6 := same_new (o := .tup [V.int t, r]) hq6
      have B6 := B5.same s6
      have g6 := g5.trans (FrH.of_same (L := L) s6)
      have ha6 := s6 _ _ ha5
      refine ⟨q6, _, rfl, .inr (seqt upd_same), w2, w3, _, rfl, ?_⟩
      show ite (inV ((valV S5.seats (Sum.inl pp : L2.Key)).getD .non) [.int t, r] = true) _ _
      rw [w4]
      exact iteF ⟨_, rfl, _, rfl, _, _, _, _, _, rfl, B6.ko, T.c_Holdings, T.n_Holdings_seats, L_Holdings_seats, _, rfl, a, _, _, _, rfl, rfl, seqt ha6, atI_nat (j := 1) (intAt_v hp), L.se, _, rfl, .k (k := Sum.inl pp) B6.seo hz, k _ (B6.setSeats _) (g6.trans (FrH.put (.inr (.inl rfl))))⟩
theorem sc_note_slot : FnScope ["known", "step", "thing", "held"] ["known", "step"] (defScope s_note_slot) := ⟨rfl, rfl, rfl, by decide +kernel, rfl, by decide +kernel, by decide +kernel⟩
theorem bi_note_slot {K : PySem.W.Frag} {f : Addr} {fd : FuncData} (F : FunD K "note_slot" "note_slot" (defArgs s_note_slot) (defBody s_note_slot) (defScope s_note_slot) [] [] f fd) : Binds K fd ["known", "step"] [] := F.bindsN fun _ _ _ _ _ _ us hl => match us, hl with | [_, _], _ => rfl
theorem ok_note_slot (T : Tx K mg) : Gd P w K mg base CX0 5 (He.fAd K ("note_slot", none)) ["known", "step"] [] (spNoteS K noteSlot) := by
  obtain ⟨fd_Holdings_root_at, G_Holdings_root_at, p_Holdings_root_at, ds_Holdings_root_at, v_Holdings_root_at, b_Holdings_root_at⟩ := ok_Holdings_root_at (P := P) (w := w) (base := base) T
  obtain ⟨fd_Holdings_thing_of, G_Holdings_thing_of, p_Holdings_thing_of, ds_Holdings_thing_of, v_Holdings_thing_of, b_Holdings_thing_of⟩ := ok_Holdings_thing_of (P := P) (w := w) (base := base) T
  obtain ⟨fd_key_of, G_key_of, p_key_of, ds_key_of, v_key_of, b_key_of⟩ := ok_key_of (P := P) (w := w) (base := base) T
  refine gd_mk T.d_note_slot sc_note_slot (fun F => bn (bi_note_slot F)) (fun vs H Q E h => ?_) (fun cdv A outer s H vs Q E hr h => ?_)
  · obtain ⟨_, _, _, _, _, rfl, _⟩ := h
    rfl
  · obtain ⟨L, S, S', a, st, rfl, B, ha, e, k⟩ := h
    have hu := hu_of hr
    refine ⟨_, (pss_cons (ps_set (i := 2) sc_note_slot.nd rfl (Or.inl rfl) (pe_meth (pv 0) T.c_Holdings T.m_Holdings_thing_of G_Holdings_thing_of (hr.mono (by decide)) b_Holdings_thing_of v_Holdings_thing_of pass0 (pa_cons (pe_call G_key_of (hr.mono (by decide)) rfl T.g_key_of p_key_of b_key_of v_key_of pass0 (pa_cons (pv 0) (pa_cons (pv 1) pa_nil))) pa_nil)))
  (pss_cons (ps_asg (pe_meth (pv 0) T.c_Holdings T.m_Holdings_root_at G_Holdings_root_at (hr.mono (by decide)) b_Holdings_root_at v_Holdings_root_at pass0 (pa_cons (pe_ix ix_tup (pv 1) pe_int (fun _ _ => rfl)) pa_nil)) (pg_sub (pe_fld (pv 0) rfl) (pv 2) set_list))
  (pss_cons (ps_set (i := 3) sc_note_slot.nd rfl (Or.inl rfl) (pe_cmpR op_eq (pe_dget1 hu (pe_fld (pv 0) rfl) (pe_ix ix_tup (pv 1) pe_int (fun _ _ => rfl)) ⟨rfl, rfl, rfl, rfl⟩) (pv 2) (nomark _)))
  (pss_cons (ps_dput hu (pe_fld (pv 0) rfl) (pe_ix ix_tup (pv 1) pe_int (fun _ _ => rfl)) (pv 2) rfl)
  (pss_one (ps_ret (pv 3))))))), ?_⟩
    obtain ⟨⟨S1, key⟩, e1, e⟩ := Option.bind_eq_some_iff.mp e
    obtain ⟨⟨S2, v2⟩, e2, e⟩ := Option.bind_eq_some_iff.mp e
    obtain ⟨t, et, e⟩ := Option.bind_eq_some_iff.mp e
    obtain ⟨i, hi, e⟩ := Option.bind_eq_some_iff.mp e
    obtain ⟨⟨S3, r⟩, e3, e⟩ := Option.bind_eq_some_iff.mp e
    obtain ⟨S5, e5, e⟩ := Option.bind_eq_some_iff.mp e
    obtain ⟨pp, hp, e⟩ := Option.bind_eq_some_iff.mp e
    obtain rfl : v2 = .int t := asInt_eq et
    obtain ⟨j, rfl, hj, rfl⟩ := rootsSet_ok e5
    refine ⟨_, rfl, _, _, _, rfl, B.ko, rfl, _, rfl, _, rfl, L, S, S1, a, st, key, rfl, B, ha, e1, fun q H1 hq B1 f1 hq1 => ?_⟩
    refine ⟨L, S1, S2, q, key, _, rfl, B1, hq1, e2, fun H2 B2 f2 => ?_⟩
    have g2 := f1.trans f2
    have ha2 := g2 a _ ha (B.notTup ha)
    refine ⟨_, rfl, _, _, _, rfl, B2.ko, rfl, _, rfl, a, _, _, _, rfl, rfl, seqt ha2, atI_nat (j := 2) (intAt_v hi), L, S2, S3, i, _, rfl, B2, e3, fun H3 B3 f3 => ?_⟩
    refine ⟨_, rfl, _, _, _, _, _, rfl, B3.ko, T.c_Holdings, T.n_Holdings_roots, L_Holdings_roots, _, rfl, L.ro, S3.roots, _, j, rfl, rfl, B3.roo, ixN_nat hj, ?_⟩
    have B4 := B3.setRoots (S3.roots.set j r)
    have g4 := (g2.trans f3).trans (FrH.put (b := L.ro) (o := .lst (S3.roots.set j r)) (.inr (.inr (.inr (.inr (.inr (.inl rfl)))))))
    have ha4 := g4 a _ ha (B.notTup ha)
    by_cases w2 : scal ((valV S3.slots (Sum.inl pp : L2.Key)).getD .non) (.int (j : Int)) = true ∧ (valV S3.slots (Sum.inl pp : L2.Key)).getD .non ≠ .int (j : Int) ∧ S3.slots.length < 500
    rotate_left
    · rw [if_neg w2] at e
      cases e
    rw [if_pos w2] at e
    cases e
    have hz : S3.slots.length < sizeLine := Nat.lt_of_lt_of_le w2.2.2 (by rw [sizeLine_eq]; decide)
    refine ⟨_, rfl, _, _, _, _, _, rfl, B4.ko, T.c_Holdings, T.n_Holdings_slots, L_Holdings_slots, L.sl, rfl, .inl ⟨_, .inl B4.slo⟩, _, rfl, a, _, _, _, rfl, rfl, seqt ha4, atI_nat (j := 1) (intAt_v hp), _, .k (k := Sum.inl pp) B4.slo, _, rfl, w2.1, ?_⟩
    refine ⟨_, rfl, _, rfl, _, _, _, _, _, rfl, B4.ko, T.c_Holdings, T.n_Holdings_slots, L_Holdings_slots, _, rfl, a, _, _, _, rfl, rfl, seqt ha4, atI_nat (j := 1) (intAt_v hp), L.sl, _, rfl, .k (k := Sum.inl pp) B4.slo hz, _, rfl, ?_⟩
    have hf : decide ((valV S3.slots (Sum.inl pp : L2.Key)).getD .non = .int (j : Int)) = false := decide_eq_false w2.2.1
    rw [hf]
    exact k _ (B4.setSlots _) (g4.trans (FrH.put (.inr (.inr (.inr (.inl rfl))))))
theorem sc_note_step : FnScope ["known", "step"] ["known", "step"] (defScope s_note_step) := ⟨rfl, rfl, rfl, by decide +kernel, rfl, by decide +kernel, by decide +kernel⟩
theorem bi_note_step {K : PySem.W.Frag} {f : Addr} {fd : FuncData} (F : FunD K "note_step" "note_step" (defArgs s_note_step) (defBody s_note_step) (defScope s_note_step) [] [] f fd) : Binds K fd ["known", "step"] [] := F.bindsN fun _ _ _ _ _ _ us hl => match us, hl with | [_, _], _ => rfl
theorem ok_note_step (T : Tx K mg) : Gd P w K mg base CX0 6 (He.fAd K ("note_step", none)) ["known", "step"] [] (spNoteS K noteStep) := by
  obtain ⟨fd_lays_seat, G_lays_seat, p_lays_seat, ds_lays_seat, v_lays_seat, b_lays_seat⟩ := ok_lays_seat (P := P) (w := w) (base := base) T
  obtain ⟨fd_lays_mask, G_lays_mask, p_lays_mask, ds_lays_mask, v_lays_mask, b_lays_mask⟩ := ok_lays_mask (P := P) (w := w) (base := base) T
  obtain ⟨fd_writes_row, G_writes_row, p_writes_row, ds_writes_row, v_writes_row, b_writes_row⟩ := ok_writes_row (P := P) (w := w) (base := base) T
  obtain ⟨fd_note_seat, G_note_seat, p_note_seat, ds_note_seat, v_note_seat, b_note_seat⟩ := ok_note_seat (P := P) (w := w) (base := base) T
  obtain ⟨fd_note_slot, G_note_slot, p_note_slot, ds_note_slot, v_note_slot, b_note_slot⟩ := ok_note_slot (P := P) (w := w) (base := base) T
  refine gd_mk T.d_note_step sc_note_step (fun F => bn (bi_note_step F)) (fun vs H Q E h => ?_) (fun cdv A outer s H vs Q E hr h => ?_)
  · obtain ⟨_, _, _, _, _, rfl, _⟩ := h
    rfl
  · obtain ⟨L, S, S', a, st, rfl, B, ha, e, k⟩ := h
    refine ⟨_, (pss_cons (ps_if (pt_val (pe_call G_lays_seat (hr.mono (by decide)) rfl T.g_lays_seat p_lays_seat b_lays_seat v_lays_seat pass0 (pa_cons (pv 1) pa_nil)))
  (pss_one (ps_ret (pe_call G_note_seat (hr.mono (by decide)) rfl T.g_note_seat p_note_seat b_note_seat v_note_seat pass0 (pa_cons (pv 0) (pa_cons (pv 1) pa_nil)))))
  pss_nil)
  (pss_cons (ps_if (pt_val (pe_call G_lays_mask (hr.mono (by decide)) rfl T.g_lays_mask p_lays_mask b_lays_mask v_lays_mask pass0 (pa_cons (pv 1) pa_nil)))
  (pss_one ps_never)
  pss_nil)
  (pss_cons (ps_if (pt_cmpR op_eq (pe_ix ix_tup (pv 1) pe_int (fun _ _ => rfl)) pe_str (nomark _))
  (pss_one (ps_ret (pe_call G_note_slot (hr.mono (by decide)) rfl T.g_note_slot p_note_slot b_note_slot v_note_slot pass0 (pa_cons (pv 0) (pa_cons (pv 1) pa_nil)))))
  pss_nil)
  (pss_cons (ps_if (pt_val (pe_call G_writes_row (hr.mono (by decide)) rfl T.g_writes_row p_writes_row b_writes_row v_writes_row pass0 (pa_cons (pv 1) pa_nil)))
  (pss_one (ps_fldaug (pv 0) pe_int in_add))
  pss_nil)
  (pss_one (ps_ret pe_bl)))))), ?_⟩
    unfold noteStep at e
    refine ⟨_, rfl, a, st, rfl, ha, fun H1 s1 => ⟨_, rfl, ?_⟩⟩
    have B1 := B.same s1
    have ha1 := s1 _ _ ha
    cases c1 : laysSeat st with
    | true =>
      rw [if_pos c1] at e
      exact iteT ⟨_, rfl, _, rfl, L, S, S', a, st, rfl, B1, ha1, e, fun H2 B2 f2 => k H2 B2 ((FrH.of_same s1).trans f2)⟩
    | false =>
      rw [if_neg (by rw [c1]; exact Bool.false_ne_true)] at e
      refine iteF ⟨_, rfl, a, st, rfl, ha1, fun H2 s2 => ⟨_, rfl, ?_⟩⟩
      have B2 := B1.same s2
      have ha2 := s2 _ _ ha1
      cases c2 : laysMask st with
      | true =>
        rw [if_pos c2] at e
        cases e
      | false =>
        rw [if_neg (by rw [c2]; exact Bool.false_ne_true)] at e
        refine iteF ⟨_, rfl, a, _, _, _, rfl, rfl, seqt ha2, atI_nat (j := 0) st.v0, rfl, _, rfl, ?_⟩
        have s12 := s1.trans s2
        by_cases c3 : st.w = "save"
        · rw [if_pos c3] at e
          rw [decide_eq_true (show V.str st.w = V.str "save" by rw [c3])]
          exact iteT ⟨_, rfl, _, rfl, L, S, S', a, st, rfl, B2, ha2, e, fun H3 B3 f3 => k H3 B3 ((FrH.of_same s12).trans f3)⟩
        rw [if_neg c3] at e
        rw [decide_eq_false (show ¬ V.str st.w = V.str "save" from fun z => c3 (V.str.inj z))]
        refine iteF ⟨_, rfl, a, st, rfl, ha2, fun H3 s3 => ⟨_, rfl, ?_⟩⟩
        have B3 := B2.same s3
        cases c4 : writesRow st with
        | true =>
          rw [if_pos c4] at e
          cases e
          refine iteT ⟨_, rfl, _, _, _, _, _, rfl, B3.ko, T.c_Holdings, T.n_Holdings_age, L_Holdings_age, _, _, rfl, rfl, _, _, B3.ko, N_Holdings, ?_⟩
          rw [P_Holdings_age]
          exact k _ (B3.setAge _) ((FrH.of_same (s12.trans s3)).trans (FrH.put (.inl rfl)))
        | false =>
          rw [if_neg (by rw [c4]; exact Bool.false_ne_true)] at e
          cases e
          exact iteF (k _ B3 (FrH.of_same (s12.trans s3)))
end
end Rb
set_option Elab.async false
set_option linter.all false
set_option maxRecDepth 100000
set_option maxHeartbeats 4000000
/-! the shortener: what is known of a strip -/
namespace Rb
open PySem PySem.Spec PyProof.Rows L2
def knownL : List Sx → HS → Option HS
  | [], S => some S
  | s :: r, S => (foldS S s).bind fun S1 => (turnS S1 s).bind fun S2 => (noteStep S2 s).bind fun S3 => knownL r S3
def SameSteps (Q : VK) (H : Hp) (sts : List Sx) : Prop := ∀ q H' ys, H q = none → Same H H' → H' q = some (.lst ys) → StepsAt H' ys (sts.map Sx.v) → Q (.ref q) H'
def spKnown : Sp := fun vs H Q _ => ∃ (a : Addr) (refs : List V) (sts : List Sx) (S' : HS), vs = [.ref a] ∧ H a = some (.lst refs) ∧ StepsAt H refs (sts.map Sx.v) ∧ sts.length < 500 ∧ knownL sts HS0 = some S' ∧ SameSteps Q H sts
theorem StepsAt.at_ {H : Hp} : ∀ {l : List V} {m : List (List V)} {i : Nat} {x : V}, StepsAt H l m → l[i]? = some x → ∃ b st, m[i]? = some st ∧ x = .ref b ∧ H b = some (.tup st)
  | _, _, 0, _, .cons ⟨b, e, h⟩ _, hx => ⟨b, _, rfl, (Option.some.inj hx).symm.trans e, h⟩
  | _, _, i + 1, _, .cons _ t, hx => StepsAt.at_ (i := i) t hx
theorem StepsAt.keep {H H' : Hp} (f : ∀ a xs, H a = some (.tup xs) → H' a = some (.tup xs)) : ∀ {l : List V} {m : List (List V)}, StepsAt H l m → StepsAt H' l m
  | _, _, .nil => .nil
  | _, _, .cons ⟨a, e, h⟩ t => .cons ⟨a, e, f _ _ h⟩ (StepsAt.keep f t)
section
variable {P : Program} {w : World} {K : PySem.W.Frag} {mg : Str → Option Value} {base : Heap}
theorem sc_known_steps : FnScope ["steps", "known", "told", "step"] ["steps"] (defScope s_known_steps) := ⟨rfl, rfl, rfl, by decide +kernel, rfl, by decide +kernel, by decide +kernel⟩
theorem bi_known_steps {K : PySem.W.Frag} {f : Addr} {fd : FuncData} (F : FunD K "known_steps" "known_steps" (defArgs s_known_steps) (defBody s_known_steps) (defScope s_known_steps) [] [] f fd) : Binds K fd ["steps"] [] := F.bindsN fun _ _ _ _ _ _ us hl => match us, hl with | [_], _ => rfl
theorem ok_known_steps (T : Tx K mg) : Gd P w K mg base CX0 7 (He.fAd K ("known_steps", none)) ["steps"] [] spKnown := by
  obtain ⟨fd_Holdings_init, G_Holdings_init, p_Holdings_init, ds_Holdings_init, v_Holdings_init, b_Holdings_init⟩ := ok_Holdings_init (P := P) (w := w) (base := base) T
  obtain ⟨fd_folded_step, G_folded_step, p_folded_step, ds_folded_step, v_folded_step, b_folded_step⟩ := ok_folded_step (P := P) (w := w) (base := base) T
  obtain ⟨fd_turned_step, G_turned_step, p_turned_step, ds_turned_step, v_turned_step, b_turned_step⟩ := ok_turned_step (P := P) (w := w) (base := base) T
  obtain ⟨fd_note_step, G_note_step, p_note_step, ds_note_step, v_note_step, b_note_step⟩ := ok_note_step (P := P) (w := w) (base := base) T
  refine gd_mk T.d_known_steps sc_known_steps (fun F => bn (bi_known_steps F)) (fun vs H Q E h => ?_) (fun cdv A outer s H vs Q E hr h => ?_)
  · obtain ⟨_, _, _, _, rfl, _⟩ := h
    rfl
  · obtain ⟨a, refs, sts, S', rfl, ha, hst, hl, e, k⟩ := h
    refine ⟨_, (pss_cons (ps_set (i := 1) sc_known_steps.nd rfl (Or.inl rfl) (pe_make0 T.k_Holdings G_Holdings_init (hr.mono (by decide)) rfl T.g_Holdings b_Holdings_init v_Holdings_init pass0))
  (pss_cons (ps_set (i := 2) sc_known_steps.nd rfl (Or.inl rfl) (pe_lst pa_nil))
  (pss_cons (ps_for PassesOwn.never rfl (pi_list (pv 0)) (pg_name (i := 3) sc_known_steps.nd rfl (Or.inl rfl))
  (pss_cons (ps_set (i := 3) sc_known_steps.nd rfl (Or.inl rfl) (pe_call G_turned_step (hr.mono (by decide)) rfl T.g_turned_step p_turned_step b_turned_step v_turned_step pass0 (pa_cons (pv 1) (pa_cons (pe_call G_folded_step (hr.mono (by decide)) rfl T.g_folded_step p_folded_step b_folded_step v_folded_step pass0 (pa_cons (pv 1) (pa_cons (pv 3) pa_nil))) pa_nil))))
  (pss_one (ps_if (pt_not (pt_val (pe_call G_note_step (hr.mono (by decide)) rfl T.g_note_step p_note_step b_note_step v_note_step pass0 (pa_cons (pv 1) (pa_cons (pv 3) pa_nil)))))
  (pss_one (ps_expr (pe_bm PySem.F.plainAttrs_list PySem.F.slot_list_append PySem.F.type_list_append mt_append (pv 2) (pa_cons (pv 3) pa_nil))))
  pss_nil))))
  (pss_one (ps_ret (pv 2)))))), ?_⟩
    refine fun x dx hx hdx hne => ⟨x, dx, rfl, upd_same, fun L H1 eL B1 own1 f1 => ⟨rfl, ?_⟩⟩
    have smd : Same H (upd (upd H dx (.own x)) x (.ins (He.ga K "Holdings") dx [])) := fun z o hz => by
      rw [upd_ne (ne_of_none hz hx), upd_ne (ne_of_none hz hdx)]
      exact hz
    have s1 : Same H H1 := fun z o hz => f1 z o (smd z o hz) (ne_of_none hz hx)
    have own0 : ∀ z, L.own z → H z = none := fun z hz => by
      rcases own1 z hz with e | e
      · rw [e]; exact hx
      · exact smd.free e
    subst eL
    refine ⟨(by show 0 ≤ sizeLine; decide), fun tq htq => ?_⟩
    have nt : ¬ L.own tq := B1.notNone htq
    have tq0 : H tq = none := s1.free htq
    refine ⟨_, rfl, a, rfl, ⟨_, seql (same_new htq _ _ (s1 _ _ ha))⟩, for_list (K := K) (a := a) (xs := refs) (fun i σ H3 => ∃ (v1 : Option V) (Si : HS) (ys : List V), σ = [some (.ref a), some (.ref L.kn), some (.ref tq), v1] ∧ HoldAt K L Si H3 ∧ Same H H3 ∧ H3 tq = some (.lst ys) ∧ StepsAt H3 ys ((sts.take i).map Sx.v) ∧ knownL (sts.drop i) Si = some S') ?_ ?_ ?_ ?_⟩
    · exact ⟨_, HS0, [], rfl, B1.same (same_new htq), s1.trans (same_new htq), upd_same, .nil, e⟩
    · rintro i σ H3 hi ⟨v1, Si, ys, rfl, B3, s3, ht3, hy3, e3⟩
      exact seql (s3 _ _ ha)
    · rintro i x σ H3 hx ⟨v1, Si, ys, rfl, B3, s3, ht3, hy3, e3⟩
      obtain ⟨b, stv, hstv, rfl, hb⟩ := hst.at_ hx
      rw [List.getElem?_map] at hstv
      obtain ⟨st, hsti, rfl⟩ := Option.map_eq_some_iff.mp hstv
      rw [List.drop_eq_getElem_cons (List.getElem?_eq_some_iff.mp hsti).1, (List.getElem?_eq_some_iff.mp hsti).2] at e3
      obtain ⟨S4, h4, e3a⟩ := Option.bind_eq_some_iff.mp e3
      obtain ⟨S5, h5, e3b⟩ := Option.bind_eq_some_iff.mp e3a
      obtain ⟨S6, h6, e3c⟩ := Option.bind_eq_some_iff.mp e3b
      have hb3 := s3 _ _ hb
      refine ⟨_, rfl, _, rfl, _, rfl, L, Si, S4, b, st, rfl, B3, hb3, h4, fun H4 B4 f4 => ?_⟩
      have hb4 := f4 b _ hb3 (B3.notTup hb3)
      refine ⟨L, S4, S5, b, st, rfl, B4, hb4, h5, fun r H5 hr5 B5 f5 hr5' => ?_⟩
      refine ⟨_, rfl, _, rfl, L, S5, S6, r, st, rfl, B5, hr5', h6, fun H6 B6 f6 => ⟨_, rfl, ?_⟩⟩
      have g6 : FrH L H3 H6 := (f4.trans f5).trans f6
      have s6 : Same H H6 := fun z o hz => g6 z o (s3 z o hz) fun own => by
        rw [own0 z own] at hz
        cases hz
      have ht6 := g6 tq _ ht3 nt
      have hy6 : StepsAt H6 ys ((sts.take i).map Sx.v) := hy3.keep fun z l hz => g6 z _ hz (B3.notTup hz)
      have hr6 := f6 r _ hr5' (B5.notTup hr5')
      refine iteT ⟨_, rfl, .inl ⟨rfl, _, .inl (.inl ht6)⟩, _, rfl, tq, _, _, rfl, rfl, ht6, ?_, ?_⟩
      · have h1 := hy3.length
        rw [List.length_map, List.length_take] at h1
        exact small1000 (by omega)
      · refine ⟨_, S6, _, rfl, B6.other nt, fun z o hz => by rw [upd_ne (ne_of_none hz tq0)]; exact s6 z o hz, upd_same, ?_, e3c⟩
        have he : sts.take (i + 1) = sts.take i ++ [st] := by
          rw [List.take_add_one, hsti]
          rfl
        rw [he, List.map_append]
        have put : ∀ z l, H6 z = some (.tup l) → upd H6 tq (.lst (ys ++ [.ref r])) z = some (.tup l) := fun z l hz => (upd_ne (ne_of hz ht6 (by intro y; cases y))).trans hz
        exact StepsAt.append (hy6.keep put) (.cons ⟨r, rfl, put _ _ hr6⟩ .nil)
    · rintro σ H3 ⟨v1, Si, ys, rfl, B3, s3, ht3, hy3, e3⟩
      have hlen : refs.length = sts.length := by
        rw [hst.length, List.length_map]
      rw [hlen, List.take_length] at hy3
      exact ⟨_, rfl, k tq H3 ys tq0 s3 ht3 hy3⟩
end
end Rb
set_option Elab.async false
set_option linter.all false
set_option maxRecDepth 100000
set_option maxHeartbeats 4000000
/-! the shortener: what is wanted of a strip -/
namespace Rb
open PySem PySem.Spec PyProof.Rows L2
structure WS where
  seats : List (L2.Key × V)
  masks : List (L2.Key × V)
  slots : List (L2.Key × V)
structure WL where
  wn : Addr
  dx : Addr
  se : Addr
  ma : Addr
  sl : Addr
def WL.own (L : WL) (a : Addr) : Prop := a = L.wn ∨ a = L.se ∨ a = L.ma ∨ a = L.sl
structure WantAt (K : PySem.W.Frag) (L : WL) (S : WS) (H : Hp) : Prop where
  wo : H L.wn = some (.ins (C_Wanted K) L.dx (F_Wanted (.ref L.se) (.ref L.ma) (.ref L.sl)))
  seo : H L.se = some (.dK S.seats)
  mao : H L.ma = some (.dK S.masks)
  slo : H L.sl = some (.dK S.slots)
  n1 : L.se ≠ L.ma
  n2 : L.se ≠ L.sl
  n4 : L.ma ≠ L.sl
section
variable {K : PySem.W.Frag} {L : WL} {S : WS} {H : Hp}
theorem WantAt.setSeats (A : WantAt K L S H) (x : List (L2.Key × V)) : WantAt K L { S with seats := x } (upd H L.se (.dK x)) :=
  { A with
    wo := upa (ne_of A.wo A.seo (by intro z; cases z)) A.wo
    seo := upd_same
    mao := upa A.n1.symm A.mao
    slo := upa A.n2.symm A.slo }
theorem WantAt.setMasks (A : WantAt K L S H) (x : List (L2.Key × V)) : WantAt K L { S with masks := x } (upd H L.ma (.dK x)) :=
  { A with
    wo := upa (ne_of A.wo A.mao (by intro z; cases z)) A.wo
    seo := upa A.n1 A.seo
    mao := upd_same
    slo := upa A.n4.symm A.slo }
theorem WantAt.setSlots (A : WantAt K L S H) (x : List (L2.Key × V)) : WantAt K L { S with slots := x } (upd H L.sl (.dK x)) :=
  { A with
    wo := upa (ne_of A.wo A.slo (by intro z; cases z)) A.wo
    seo := upa A.n2 A.seo
    mao := upa A.n4 A.mao
    slo := upd_same }
theorem WantAt.same {H' : Hp} (A : WantAt K L S H) (e : Same H H') : WantAt K L S H' := { A with wo := e _ _ A.wo, seo := e _ _ A.seo, mao := e _ _ A.mao, slo := e _ _ A.slo }
theorem WantAt.notTup (A : WantAt K L S H) {a : Addr} {xs : List V} (h : H a = some (.tup xs)) : ¬ L.own a := by
  rintro (e | e | e | e) <;> rw [e] at h
  · rw [A.wo] at h; cases h
  · rw [A.seo] at h; cases h
  · rw [A.mao] at h; cases h
  · rw [A.slo] at h; cases h
theorem WantAt.notNone (A : WantAt K L S H) {a : Addr} (h : H a = none) : ¬ L.own a := by
  rintro (e | e | e | e) <;> rw [e] at h
  · rw [A.wo] at h; cases h
  · rw [A.seo] at h; cases h
  · rw [A.mao] at h; cases h
  · rw [A.slo] at h; cases h
theorem WantAt.other (A : WantAt K L S H) {a : Addr} {o : HO} (h : ¬ L.own a) : WantAt K L S (upd H a o) :=
  { A with
    wo := upa (fun z => h (.inl z.symm)) A.wo
    seo := upa (fun z => h (.inr (.inl z.symm))) A.seo
    mao := upa (fun z => h (.inr (.inr (.inl z.symm)))) A.mao
    slo := upa (fun z => h (.inr (.inr (.inr z.symm)))) A.slo }
end
def FrW (L : WL) (H H' : Hp) : Prop := ∀ a o, H a = some o → ¬ L.own a → H' a = some o
theorem FrW.refl (L : WL) (H : Hp) : FrW L H H := fun _ _ h _ => h
theorem FrW.trans {L : WL} {H H1 H2 : Hp} (a : FrW L H H1) (b : FrW L H1 H2) : FrW L H H2 := fun x o h n => b x o (a x o h n) n
theorem FrW.of_same {L : WL} {H H' : Hp} (e : Same H H') : FrW L H H' := fun a o h _ => e a o h
theorem FrW.put {L : WL} {H : Hp} {b : Addr} {o : HO} (h : L.own b) : FrW L H (upd H b o) := fun a u e n => by
  rw [upd_ne fun z => n (by rw [z]; exact h)]
  exact e
def WS0 : WS := ⟨[], [], []⟩
def gotB (m : List (L2.Key × V)) (s : Sx) : Bool := match intAt s 1 with
  | some p => decide ((valV m (Sum.inl p : L2.Key)).getD (.bl false) = .bl true)
  | none => false
theorem gotB_ok {m : List (L2.Key × V)} {s : Sx} (h : gotB m s = true) : ∃ p, intAt s 1 = some p ∧ (valV m (Sum.inl p : L2.Key)).getD (.bl false) = .bl true := by
  unfold gotB at h
  split at h
  · rename_i p hp
    exact ⟨p, hp, of_decide_eq_true h⟩
  · cases h
def wantB (S : WS) (s : Sx) : Bool := match mayFault s with
  | some true => true
  | some false => if laysSeat s = true then gotB S.seats s else if laysMask s = true then false else if s.w = "save" then gotB S.slots s else true
  | none => false
def putB (m : List (L2.Key × V)) (p : Int) (b : Bool) : Option (List (L2.Key × V)) := if m.length < 500 then some (putK m (Sum.inl p) (.bl b)) else none
theorem putB_ok {m m' : List (L2.Key × V)} {p : Int} {b : Bool} (h : putB m p b = some m') : m.length < sizeLine ∧ m' = putK m (Sum.inl p) (.bl b) := by
  unfold putB at h
  by_cases c : m.length < 500
  · rw [if_pos c] at h
    exact ⟨Nat.lt_of_lt_of_le c (by rw [sizeLine_eq]; decide), (Option.some.inj h).symm⟩
  · rw [if_neg c] at h
    cases h
def wpSeat (S : WS) (s : Sx) : Option WS := if laysSeat s = true then (intAt s 1).bind fun p => (putB S.seats p false).map fun m => { S with seats := m } else some S
def wpSlot (S : WS) (s : Sx) : Option WS := if s.w = "save" then (intAt s 1).bind fun p => (putB S.slots p false).map fun m => { S with slots := m } else some S
def wpSeats (s : Sx) : List Nat → WS → Option WS
  | [], S => some S
  | i :: r, S => (intAt s i).bind fun p => (putB S.seats p true).bind fun m => wpSeats s r { S with seats := m }
def wpMasks (s : Sx) : List Nat → WS → Option WS
  | [], S => some S
  | i :: r, S => (intAt s i).bind fun p => (putB S.masks p true).bind fun m => wpMasks s r { S with masks := m }
def wpBring (S : WS) (s : Sx) : Option WS := if s.w = "bring" then (intAt s 2).bind fun p => (putB S.slots p true).map fun m => { S with slots := m } else some S
def wantP (S : WS) (s : Sx) : Option WS := (wpSeat S s).bind fun S1 => if laysMask s = true then none else (wpSlot S1 s).bind fun S2 => (wpSeats s (seatAts s) S2).bind fun S3 => (wpMasks s (maskAts s) S3).bind fun S4 => wpBring S4 s
def liveL : List Sx → WS → Option WS
  | [], S => some S
  | s :: r, S => if wantB S s = true then (wantP S s).bind fun S1 => liveL r S1 else none
def spWantInit (K : PySem.W.Frag) : Sp := fun vs H Q _ => ∃ (p dx : Addr), vs = [.ref p] ∧ H p = some (.ins (C_Wanted K) dx []) ∧
  ∀ L H', L.wn = p → WantAt K L WS0 H' → (∀ a, L.own a → a = p ∨ H a = none) → (∀ a o, H a = some o → a ≠ p → H' a = some o) → Q .non H'
def spIsW (K : PySem.W.Frag) : Sp := fun vs H Q _ => ∃ (L : WL) (S : WS) (a : Addr) (s : Sx), vs = [.ref L.wn, .ref a] ∧ WantAt K L S H ∧ H a = some (.tup s.v) ∧ wantB S s = true ∧ ∀ H', Same H H' → Q (.bl true) H'
def spWantP (K : PySem.W.Frag) : Sp := fun vs H Q _ => ∃ (L : WL) (S S' : WS) (a : Addr) (s : Sx), vs = [.ref L.wn, .ref a] ∧ WantAt K L S H ∧ H a = some (.tup s.v) ∧ wantP S s = some S' ∧ ∀ H', WantAt K L S' H' → FrW L H H' → Q .non H'
section
variable {P : Program} {w : World} {K : PySem.W.Frag} {mg : Str → Option Value} {base : Heap}
theorem sc_Wanted_init : FnScope ["self"] ["self"] (defScope s_Wanted_init) := ⟨rfl, rfl, rfl, by decide +kernel, rfl, by decide +kernel, by decide +kernel⟩
theorem bi_Wanted_init {K : PySem.W.Frag} {f : Addr} {fd : FuncData} (F : FunD K "__init__" "Wanted.__init__" (defArgs s_Wanted_init) (defBody s_Wanted_init) (defScope s_Wanted_init) [] [] f fd) : Binds K fd ["self"] [] := F.bindsN fun _ _ _ _ _ _ us hl => match us, hl with | [_], _ => rfl
theorem ok_Wanted_init (T : Tx K mg) : Gd P w K mg base CX0 1 (He.fAd K ("Wanted", some "__init__")) ["self"] [] (spWantInit K) := by
  refine gd_mk T.d_Wanted_init sc_Wanted_init (fun F => bn (bi_Wanted_init F)) (fun vs H Q E h => ?_) (fun cdv A outer s H vs Q E hr h => ?_)
  · obtain ⟨_, _, rfl, _⟩ := h
    rfl
  · obtain ⟨p, dx, rfl, hp, k⟩ := h
    refine ⟨_, (pss_cons (ps_fld (pv 0) pe_dnewK rfl)
  (pss_cons (ps_fld (pv 0) pe_dnewK rfl)
  (pss_one (ps_fld (pv 0) pe_dnewK rfl)))), ?_⟩
    refine fun q0 hq0 => ?_
    have n0 : p ≠ q0 := ne_of_none hp hq0
    have m0 := (ButL.new (c := p) (o := .dK []) hq0).trans (ButL.put (o := .ins (C_Wanted K) dx [("seats", .ref q0)]))
    refine ⟨_, rfl, _, _, _, _, rfl, (upd_ne n0).trans hp, T.c_Wanted, T.n_Wanted_seats, J_Wanted_0, ?_⟩
    rw [I_Wanted_0]
    refine fun q1 hq1 => ?_
    have n1 : p ≠ q1 := fun e => by
      rw [← e, upd_same] at hq1
      cases hq1
    have m1 := (ButL.new (c := p) (o := .dK []) hq1).trans (ButL.put (o := .ins (C_Wanted K) dx [("seats", .ref q0), ("masks", .ref q1)]))
    refine ⟨_, rfl, _, _, _, _, rfl, (upd_ne n1).trans upd_same, T.c_Wanted, T.n_Wanted_masks, J_Wanted_1, ?_⟩
    rw [I_Wanted_1]
    refine fun q2 hq2 => ?_
    have n2 : p ≠ q2 := fun e => by
      rw [← e, upd_same] at hq2
      cases hq2
    have m2 := (ButL.new (c := p) (o := .dK []) hq2).trans (ButL.put (o := .ins (C_Wanted K) dx (F_Wanted (.ref q0) (.ref q1) (.ref q2))))
    refine ⟨_, rfl, _, _, _, _, rfl, (upd_ne n2).trans upd_same, T.c_Wanted, T.n_Wanted_slots, J_Wanted_2, ?_⟩
    rw [I_Wanted_2]
    have c0 := ButL.put (c := p) (H := upd H q0 (.dK [])) (o := .ins (C_Wanted K) dx [("seats", .ref q0)])
    have d01 : q0 ≠ q1 := ne_of_none (c0 q0 _ upd_same n0.symm) hq1
    have d02 : q0 ≠ q2 := ne_of_none ((c0.trans m1) q0 _ upd_same n0.symm) hq2
    have v0 := ((c0.trans m1).trans m2) q0 _ upd_same n0.symm
    have c1 := ButL.put (c := p) (H := upd (upd (upd H q0 (.dK [])) p (.ins (C_Wanted K) dx [("seats", .ref q0)])) q1 (.dK [])) (o := .ins (C_Wanted K) dx [("seats", .ref q0), ("masks", .ref q1)])
    have d12 : q1 ≠ q2 := ne_of_none (c1 q1 _ upd_same n1.symm) hq2
    have v1 := (c1.trans m2) q1 _ upd_same n1.symm
    have z1 : H q1 = none := ButL.free m0 hq1 n1.symm
    have z2 : H q2 = none := ButL.free (m0.trans m1) hq2 n2.symm
    refine k ⟨p, dx, q0, q1, q2⟩ _ rfl ⟨upd_same, v0, v1, (upd_ne n2.symm).trans upd_same, d01, d02, d12⟩ ?_ ((m0.trans m1).trans m2)
    rintro a (e | e | e | e)
    · exact .inl e
    · exact .inr (e ▸ hq0)
    · exact .inr (e ▸ z1)
    · exact .inr (e ▸ z2)
theorem sc_is_wanted : FnScope ["wanted", "step"] ["wanted", "step"] (defScope s_is_wanted) := ⟨rfl, rfl, rfl, by decide +kernel, rfl, by decide +kernel, by decide +kernel⟩
theorem bi_is_wanted {K : PySem.W.Frag} {f : Addr} {fd : FuncData} (F : FunD K "is_wanted" "is_wanted" (defArgs s_is_wanted) (defBody s_is_wanted) (defScope s_is_wanted) [] [] f fd) : Binds K fd ["wanted", "step"] [] := F.bindsN fun _ _ _ _ _ _ us hl => match us, hl with | [_, _], _ => rfl
theorem ok_is_wanted (T : Tx K mg) : Gd P w K mg base CX0 2 (He.fAd K ("is_wanted", none)) ["wanted", "step"] [] (spIsW K) := by
  obtain ⟨fd_lays_seat, G_lays_seat, p_lays_seat, ds_lays_seat, v_lays_seat, b_lays_seat⟩ := ok_lays_seat (P := P) (w := w) (base := base) T
  obtain ⟨fd_lays_mask, G_lays_mask, p_lays_mask, ds_lays_mask, v_lays_mask, b_lays_mask⟩ := ok_lays_mask (P := P) (w := w) (base := base) T
  obtain ⟨fd_may_fault, G_may_fault, p_may_fault, ds_may_fault, v_may_fault, b_may_fault⟩ := ok_may_fault (P := P) (w := w) (base := base) T
  refine gd_mk T.d_is_wanted sc_is_wanted (fun F => bn (bi_is_wanted F)) (fun vs H Q E h => ?_) (fun cdv A outer s H vs Q E hr h => ?_)
  · obtain ⟨_, _, _, _, rfl, _⟩ := h
    rfl
  · obtain ⟨L, S, a, st, rfl, B, ha, e, k⟩ := h
    have hu := hu_of hr
    refine ⟨_, (pss_cons (ps_if (pt_val (pe_call G_may_fault (hr.mono (by decide)) rfl T.g_may_fault p_may_fault b_may_fault v_may_fault pass0 (pa_cons (pv 1) pa_nil)))
  (pss_one (ps_ret pe_bl))
  pss_nil)
  (pss_cons (ps_if (pt_val (pe_call G_lays_seat (hr.mono (by decide)) rfl T.g_lays_seat p_lays_seat b_lays_seat v_lays_seat pass0 (pa_cons (pv 1) pa_nil)))
  (pss_one (ps_ret (pe_dget2 hu (pe_fld (pv 0) rfl) (pe_ix ix_tup (pv 1) pe_int (fun _ _ => rfl)) pe_bl ⟨rfl, rfl, rfl, rfl⟩)))
  pss_nil)
  (pss_cons (ps_if (pt_val (pe_call G_lays_mask (hr.mono (by decide)) rfl T.g_lays_mask p_lays_mask b_lays_mask v_lays_mask pass0 (pa_cons (pv 1) pa_nil)))
  (pss_one ps_never)
  pss_nil)
  (pss_cons (ps_if (pt_cmpR op_eq (pe_ix ix_tup (pv 1) pe_int (fun _ _ => rfl)) pe_str (nomark _))
  (pss_one (ps_ret (pe_dget2 hu (pe_fld (pv 0) rfl) (pe_ix ix_tup (pv 1) pe_int (fun _ _ => rfl)) pe_bl ⟨rfl, rfl, rfl, rfl⟩)))
  pss_nil)
  (pss_one (ps_ret pe_bl)))))), ?_⟩
    unfold wantB at e
    split at e
    rotate_left 2
    · cases e
    · rename_i hf
      exact ⟨_, rfl, a, st, true, rfl, ha, hf, fun H1 s1 => ⟨_, rfl, iteT (k H1 s1)⟩⟩
    · rename_i hf
      refine ⟨_, rfl, a, st, false, rfl, ha, hf, fun H1 s1 => ⟨_, rfl, iteF ?_⟩⟩
      have B1 := B.same s1
      have ha1 := s1 _ _ ha
      refine ⟨_, rfl, a, st, rfl, ha1, fun H2 s2 => ⟨_, rfl, ?_⟩⟩
      have B2 := B1.same s2
      have ha2 := s2 _ _ ha1
      have s12 := s1.trans s2
      cases c1 : laysSeat st with
      | true =>
        rw [if_pos c1] at e
        obtain ⟨p, hp, hv⟩ := gotB_ok e
        refine iteT ⟨_, rfl, _, _, _, _, _, rfl, B2.wo, T.c_Wanted, T.n_Wanted_seats, L_Wanted_seats, L.se, rfl, .inl ⟨_, .inl B2.seo⟩, _, rfl, a, _, _, _, rfl, rfl, seqt ha2, atI_nat (j := 1) (intAt_v hp), _, .k (k := Sum.inl p) B2.seo, ?_⟩
        rw [hv]
        exact k H2 s12
      | false =>
        rw [if_neg (by rw [c1]; exact Bool.false_ne_true)] at e
        refine iteF ⟨_, rfl, a, st, rfl, ha2, fun H3 s3 => ⟨_, rfl, ?_⟩⟩
        have B3 := B2.same s3
        have ha3 := s3 _ _ ha2
        have s13 := s12.trans s3
        cases c2 : laysMask st with
        | true =>
          rw [if_pos c2] at e
          cases e
        | false =>
          rw [if_neg (by rw [c2]; exact Bool.false_ne_true)] at e
          refine iteF ⟨_, rfl, a, _, _, _, rfl, rfl, seqt ha3, atI_nat (j := 0) st.v0, rfl, _, rfl, ?_⟩
          by_cases c3 : st.w = "save"
          · rw [if_pos c3] at e
            rw [decide_eq_true (show V.str st.w = V.str "save" by rw [c3])]
            obtain ⟨p, hp, hv⟩ := gotB_ok e
            refine iteT ⟨_, rfl, _, _, _, _, _, rfl, B3.wo, T.c_Wanted, T.n_Wanted_slots, L_Wanted_slots, L.sl, rfl, .inl ⟨_, .inl B3.slo⟩, _, rfl, a, _, _, _, rfl, rfl, seqt ha3, atI_nat (j := 1) (intAt_v hp), _, .k (k := Sum.inl p) B3.slo, ?_⟩
            rw [hv]
            exact k H3 s13
          rw [decide_eq_false (show ¬ V.str st.w = V.str "save" from fun z => c3 (V.str.inj z))]
          exact iteF (k H3 s13)
end
end Rb
set_option Elab.async false
set_option linter.all false
set_option maxRecDepth 100000
set_option maxHeartbeats 4000000
/-! the shortener: the steps that live -/
namespace Rb
open PySem PySem.Spec PyProof.Rows L2
theorem putB_map {S' : WS} {m : List (L2.Key × V)} {p : Int} {b : Bool} {f : List (L2.Key × V) → WS} (h : (putB m p b).map f = some S') : m.length < sizeLine ∧ S' = f (putK m (Sum.inl p) (.bl b)) := by
  obtain ⟨m', h1, h2⟩ := Option.map_eq_some_iff.mp h
  obtain ⟨h3, rfl⟩ := putB_ok h1
  exact ⟨h3, h2.symm⟩
section
variable {P : Program} {w : World} {K : PySem.W.Frag} {mg : Str → Option Value} {base : Heap}
theorem sc_want_parts : FnScope ["wanted", "step", "at"] ["wanted", "step"] (defScope s_want_parts) := ⟨rfl, rfl, rfl, by decide +kernel, rfl, by decide +kernel, by decide +kernel⟩
theorem bi_want_parts {K : PySem.W.Frag} {f : Addr} {fd : FuncData} (F : FunD K "want_parts" "want_parts" (defArgs s_want_parts) (defBody s_want_parts) (defScope s_want_parts) [] [] f fd) : Binds K fd ["wanted", "step"] [] := F.bindsN fun _ _ _ _ _ _ us hl => match us, hl with | [_, _], _ => rfl
theorem ok_want_parts (T : Tx K mg) : Gd P w K mg base CX0 2 (He.fAd K ("want_parts", none)) ["wanted", "step"] [] (spWantP K) := by
  obtain ⟨fd_lays_seat, G_lays_seat, p_lays_seat, ds_lays_seat, v_lays_seat, b_lays_seat⟩ := ok_lays_seat (P := P) (w := w) (base := base) T
  obtain ⟨fd_lays_mask, G_lays_mask, p_lays_mask, ds_lays_mask, v_lays_mask, b_lays_mask⟩ := ok_lays_mask (P := P) (w := w) (base := base) T
  obtain ⟨fd_seat_places, G_seat_places, p_seat_places, ds_seat_places, v_seat_places, b_seat_places⟩ := ok_seat_places (P := P) (w := w) (base := base) T
  obtain ⟨fd_mask_places, G_mask_places, p_mask_places, ds_mask_places, v_mask_places, b_mask_places⟩ := ok_mask_places (P := P) (w := w) (base := base) T
  refine gd_mk T.d_want_parts sc_want_parts (fun F => bn (bi_want_parts F)) (fun vs H Q E h => ?_) (fun cdv A outer s H vs Q E hr h => ?_)
  · obtain ⟨_, _, _, _, _, rfl, _⟩ := h
    rfl
  · obtain ⟨L, S, S', a, st, rfl, B, ha, e, k⟩ := h
    have hu := hu_of hr
    refine ⟨_, (C8.pss_cut (ps_if (pt_val (pe_call G_lays_seat (hr.mono (by decide)) rfl T.g_lays_seat p_lays_seat b_lays_seat v_lays_seat pass0 (pa_cons (pv 1) pa_nil)))
  (pss_one (ps_dput hu (pe_fld (pv 0) rfl) (pe_ix ix_tup (pv 1) pe_int (fun _ _ => rfl)) pe_bl rfl))
  pss_nil)
  (C8.pss_cut (ps_if (pt_val (pe_call G_lays_mask (hr.mono (by decide)) rfl T.g_lays_mask p_lays_mask b_lays_mask v_lays_mask pass0 (pa_cons (pv 1) pa_nil)))
  (pss_one ps_never)
  pss_nil)
  (C8.pss_cut (ps_if (pt_cmpR op_eq (pe_ix ix_tup (pv 1) pe_int (fun _ _ => rfl)) pe_str (nomark _))
  (pss_one (ps_dput hu (pe_fld (pv 0) rfl) (pe_ix ix_tup (pv 1) pe_int (fun _ _ => rfl)) pe_bl rfl))
  pss_nil)
  (pss_cons (ps_for PassesOwn.never rfl (pi_list (pe_call G_seat_places (hr.mono (by decide)) rfl T.g_seat_places p_seat_places b_seat_places v_seat_places pass0 (pa_cons (pv 1) pa_nil))) (pg_name (i := 2) sc_want_parts.nd rfl (Or.inl rfl))
  (pss_one (ps_dput hu (pe_fld (pv 0) rfl) (pe_ix ix_tup (pv 1) (pv 2) (fun _ _ => rfl)) pe_bl rfl)))
  (pss_cons (ps_for PassesOwn.never rfl (pi_list (pe_call G_mask_places (hr.mono (by decide)) rfl T.g_mask_places p_mask_places b_mask_places v_mask_places pass0 (pa_cons (pv 1) pa_nil))) (pg_name (i := 2) sc_want_parts.nd rfl (Or.inl rfl))
  (pss_one (ps_dput hu (pe_fld (pv 0) rfl) (pe_ix ix_tup (pv 1) (pv 2) (fun _ _ => rfl)) pe_bl rfl)))
  (pss_one (ps_if (pt_cmpR op_eq (pe_ix ix_tup (pv 1) pe_int (fun _ _ => rfl)) pe_str (nomark _))
  (pss_one (ps_dput hu (pe_fld (pv 0) rfl) (pe_ix ix_tup (pv 1) pe_int (fun _ _ => rfl)) pe_bl rfl))
  pss_nil))))))), ?_⟩
    obtain ⟨S1, e1, e⟩ := Option.bind_eq_some_iff.mp e
    by_cases cm : laysMask st = true
    · rw [if_pos cm] at e
      cases e
    rw [if_neg cm] at e
    have cm' : laysMask st = false := by
      cases h : laysMask st with
      | true => exact (cm h).elim
      | false => rfl
    obtain ⟨S2, e2, e⟩ := Option.bind_eq_some_iff.mp e
    obtain ⟨S3, e3, e⟩ := Option.bind_eq_some_iff.mp e
    obtain ⟨S4, e4, e5⟩ := Option.bind_eq_some_iff.mp e
    -- seats
    refine ⟨fun σ' H' => σ' = [some (.ref L.wn), some (.ref a), none] ∧ WantAt K L S1 H' ∧ FrW L H H', ⟨_, rfl, a, st, rfl, ha, fun H1 s1 => ⟨_, rfl, ?_⟩⟩, ?_⟩
    · have B1 := B.same s1
      have ha1 := s1 _ _ ha
      unfold wpSeat at e1
      cases c1 : laysSeat st with
      | true =>
        rw [if_pos c1] at e1
        obtain ⟨p, hp, e1⟩ := Option.bind_eq_some_iff.mp e1
        obtain ⟨hz, rfl⟩ := putB_map e1
        exact iteT ⟨_, rfl, _, _, _, _, _, rfl, B1.wo, T.c_Wanted, T.n_Wanted_seats, L_Wanted_seats, _, rfl, a, _, _, _, rfl, rfl, seqt ha1, atI_nat (j := 1) (intAt_v hp), L.se, _, rfl, .k (k := Sum.inl p) B1.seo hz, rfl, B1.setSeats _, (FrW.of_same s1).trans (FrW.put (.inr (.inl rfl)))⟩
      | false =>
        rw [if_neg (by rw [c1]; exact Bool.false_ne_true)] at e1
        cases e1
        exact iteF ⟨rfl, B1, FrW.of_same s1⟩
    rintro σ' H1 ⟨rfl, B1, g1⟩
    have ha1 := g1 a _ ha (B.notTup ha)
    -- masks
    refine ⟨fun σ' H' => σ' = [some (.ref L.wn), some (.ref a), none] ∧ WantAt K L S1 H' ∧ FrW L H H', ⟨_, rfl, a, st, rfl, ha1, fun H2 s2 => ⟨_, rfl, ?_⟩⟩, ?_⟩
    · rw [cm']
      exact iteF ⟨rfl, B1.same s2, g1.trans (FrW.of_same s2)⟩
    rintro σ' H2 ⟨rfl, B2, g2⟩
    have ha2 := g2 a _ ha (B.notTup ha)
    -- slots
    refine ⟨fun σ' H' => σ' = [some (.ref L.wn), some (.ref a), none] ∧ WantAt K L S2 H' ∧ FrW L H H', ⟨_, rfl, a, _, _, _, rfl, rfl, seqt ha2, atI_nat (j := 0) st.v0, rfl, _, rfl, ?_⟩, ?_⟩
    · unfold wpSlot at e2
      by_cases ew : st.w = "save"
      · rw [if_pos ew] at e2
        rw [decide_eq_true (show V.str st.w = V.str "save" by rw [ew])]
        obtain ⟨p, hp, e2⟩ := Option.bind_eq_some_iff.mp e2
        obtain ⟨hz, rfl⟩ := putB_map e2
        exact iteT ⟨_, rfl, _, _, _, _, _, rfl, B2.wo, T.c_Wanted, T.n_Wanted_slots, L_Wanted_slots, _, rfl, a, _, _, _, rfl, rfl, seqt ha2, atI_nat (j := 1) (intAt_v hp), L.sl, _, rfl, .k (k := Sum.inl p) B2.slo hz, rfl, B2.setSlots _, g2.trans (FrW.put (.inr (.inr (.inr rfl))))⟩
      · rw [if_neg ew] at e2
        cases e2
        rw [decide_eq_false (show ¬ V.str st.w = V.str "save" from fun z => ew (V.str.inj z))]
        exact iteF ⟨rfl, B2, g2⟩
    rintro σ' H3 ⟨rfl, B3, g3⟩
    have ha3 := g3 a _ ha (B.notTup ha)
    -- the seats read
    refine ⟨_, rfl, a, st, rfl, ha3, fun q H4 hq s4 hq4 => ?_⟩
    have nq : ¬ L.own q := B3.notNone hq
    refine ⟨q, rfl, ⟨_, seql hq4⟩, for_list (K := K) (a := q) (xs := (seatAts st).map fun i => V.int (i : Nat)) (fun i σ H5 => ∃ (v1 : Option V) (Si : WS), σ = [some (.ref L.wn), some (.ref a), v1] ∧ WantAt K L Si H5 ∧ FrW L H H5 ∧ H5 q = some (.lst ((seatAts st).map fun i => V.int (i : Nat))) ∧ wpSeats st ((seatAts st).drop i) Si = some S3) ?_ ?_ ?_ ?_⟩
    · exact ⟨_, S2, rfl, B3.same s4, g3.trans (FrW.of_same s4), hq4, e3⟩
    · rintro i σ H5 hi ⟨v1, Si, rfl, B5, g5, hq5, t5⟩
      exact seql hq5
    · rintro i x σ H5 hx ⟨v1, Si, rfl, B5, g5, hq5, t5⟩
      have ha5 := g5 a _ ha (B.notTup ha)
      rw [List.getElem?_map] at hx
      obtain ⟨at_, hat, rfl⟩ := Option.map_eq_some_iff.mp hx
      rw [List.drop_eq_getElem_cons (List.getElem?_eq_some_iff.mp hat).1, (List.getElem?_eq_some_iff.mp hat).2] at t5
      obtain ⟨p, hp, t5a⟩ := Option.bind_eq_some_iff.mp t5
      obtain ⟨m, hm, t5b⟩ := Option.bind_eq_some_iff.mp t5a
      obtain ⟨hz, rfl⟩ := putB_ok hm
      exact ⟨_, rfl, _, _, _, _, _, rfl, B5.wo, T.c_Wanted, T.n_Wanted_seats, L_Wanted_seats, _, rfl, _, rfl, a, _, _, _, rfl, rfl, seqt ha5, atI_nat (j := at_) (intAt_v hp), L.se, _, rfl, .k (k := Sum.inl p) B5.seo hz, _, _, rfl, B5.setSeats _, g5.trans (FrW.put (.inr (.inl rfl))), (upd_ne fun z => nq (.inr (.inl z))).trans hq5, t5b⟩
    · rintro σ H5 ⟨v1, Si, rfl, B5, g5, hq5, t5⟩
      rw [List.length_map, List.drop_length] at t5
      cases t5
      have ha5 := g5 a _ ha (B.notTup ha)
      refine ⟨_, rfl, a, st, rfl, ha5, fun q2 H6 hq6 s6 hq7 => ?_⟩
      have nq2 : ¬ L.own q2 := B5.notNone hq6
      refine ⟨q2, rfl, ⟨_, seql hq7⟩, for_list (K := K) (a := q2) (xs := (maskAts st).map fun i => V.int (i : Nat)) (fun i σ H5 => ∃ (v1 : Option V) (Si : WS), σ = [some (.ref L.wn), some (.ref a), v1] ∧ WantAt K L Si H5 ∧ FrW L H H5 ∧ H5 q2 = some (.lst ((maskAts st).map fun i => V.int (i : Nat))) ∧ wpMasks st ((maskAts st).drop i) Si = some S4) ?_ ?_ ?_ ?_⟩
      · exact ⟨_, _, rfl, B5.same s6, g5.trans (FrW.of_same s6), hq7, e4⟩
      · rintro i σ H8 hi ⟨v1, Si, rfl, B8, g8, hq8, t8⟩
        exact seql hq8
      · rintro i x σ H8 hx ⟨v1, Si, rfl, B8, g8, hq8, t8⟩
        have ha8 := g8 a _ ha (B.notTup ha)
        rw [List.getElem?_map] at hx
        obtain ⟨at_, hat, rfl⟩ := Option.map_eq_some_iff.mp hx
        rw [List.drop_eq_getElem_cons (List.getElem?_eq_some_iff.mp hat).1, (List.getElem?_eq_some_iff.mp hat).2] at t8
        obtain ⟨p, hp, t8a⟩ := Option.bind_eq_some_iff.mp t8
        obtain ⟨m, hm, t8b⟩ := Option.bind_eq_some_iff.mp t8a
        obtain ⟨hz, rfl⟩ := putB_ok hm
        exact ⟨_, rfl, _, _, _, _, _, rfl, B8.wo, T.c_Wanted, T.n_Wanted_masks, L_Wanted_masks, _, rfl, _, rfl, a, _, _, _, rfl, rfl, seqt ha8, atI_nat (j := at_) (intAt_v hp), L.ma, _, rfl, .k (k := Sum.inl p) B8.mao hz, _, _, rfl, B8.setMasks _, g8.trans (FrW.put (.inr (.inr (.inl rfl)))), (upd_ne fun z => nq2 (.inr (.inr (.inl z)))).trans hq8, t8b⟩
      · rintro σ H8 ⟨v2, Sk, rfl, B8, g8, hq8, t8⟩
        rw [List.length_map, List.drop_length] at t8
        cases t8
        have ha8 := g8 a _ ha (B.notTup ha)
        refine ⟨_, rfl, a, _, _, _, rfl, rfl, seqt ha8, atI_nat (j := 0) st.v0, rfl, _, rfl, ?_⟩
        unfold wpBring at e5
        by_cases ew : st.w = "bring"
        · rw [if_pos ew] at e5
          rw [decide_eq_true (show V.str st.w = V.str "bring" by rw [ew])]
          obtain ⟨p, hp, e5⟩ := Option.bind_eq_some_iff.mp e5
          obtain ⟨hz, rfl⟩ := putB_map e5
          exact iteT ⟨_, rfl, _, _, _, _, _, rfl, B8.wo, T.c_Wanted, T.n_Wanted_slots, L_Wanted_slots, _, rfl, a, _, _, _, rfl, rfl, seqt ha8, atI_nat (j := 2) (intAt_v hp), L.sl, _, rfl, .k (k := Sum.inl p) B8.slo hz, k _ (B8.setSlots _) (g8.trans (FrW.put (.inr (.inr (.inr rfl)))))⟩
        · rw [if_neg ew] at e5
          cases e5
          rw [decide_eq_false (show ¬ V.str st.w = V.str "bring" from fun z => ew (V.str.inj z))]
          exact iteF (k _ B8 g8)
end
end Rb
set_option Elab.async false
set_option linter.all false
set_option maxRecDepth 100000
set_option maxHeartbeats 4000000
/-! the shortener: code made shorter, once and again -/
namespace Rb
open PySem PySem.Spec PyProof.Rows L2
def spLive : Sp := fun vs H Q _ => ∃ (a : Addr) (refs : List V) (sts : List Sx) (S' : WS), vs = [.ref a] ∧ H a = some (.lst refs) ∧ StepsAt H refs (sts.map Sx.v) ∧ sts.length < 500 ∧ liveL sts.reverse WS0 = some S' ∧ ∀ q H', H q = none → Same H H' → H' q = some (.lst refs) → Q (.ref q) H'
/-- code that the shortener leaves as it is -/
structure Firm (b nx : Sx) (mid : List Sx) : Prop where
  bw : b.w = "begin"
  nw : nx.w = "next"
  mw : ∀ s ∈ mid, s.w ≠ "begin" ∧ s.w ≠ "next"
  len : mid.length < 400
  known : ∃ S', knownL mid HS0 = some S'
  live : ∃ S', liveL mid.reverse WS0 = some S'
def spOnce : Sp := fun vs H Q _ => ∃ (a : Addr) (refs : List V) (b nx : Sx) (mid : List Sx), vs = [.ref a] ∧ H a = some (.lst refs) ∧ Firm b nx mid ∧ StepsAt H refs ((b :: (mid ++ [nx])).map Sx.v) ∧ SameSteps Q H (b :: (mid ++ [nx]))
theorem StepsAt.split {H : Hp} : ∀ {l : List V} {x y : List (List V)}, StepsAt H l (x ++ y) → ∃ l1 l2, l = l1 ++ l2 ∧ StepsAt H l1 x ∧ StepsAt H l2 y
  | l, [], y, s => ⟨[], l, rfl, .nil, s⟩
  | _, _ :: x, y, .cons r t => by
    obtain ⟨l1, l2, e, h1, h2⟩ := StepsAt.split (x := x) t
    exact ⟨_ :: l1, l2, by rw [e]; rfl, .cons r h1, h2⟩
section
variable {P : Program} {w : World} {K : PySem.W.Frag} {mg : Str → Option Value} {base : Heap}
theorem sc_live_steps : FnScope ["steps", "wanted", "told", "step"] ["steps"] (defScope s_live_steps) := ⟨rfl, rfl, rfl, by decide +kernel, rfl, by decide +kernel, by decide +kernel⟩
theorem bi_live_steps {K : PySem.W.Frag} {f : Addr} {fd : FuncData} (F : FunD K "live_steps" "live_steps" (defArgs s_live_steps) (defBody s_live_steps) (defScope s_live_steps) [] [] f fd) : Binds K fd ["steps"] [] := F.bindsN fun _ _ _ _ _ _ us hl => match us, hl with | [_], _ => rfl
theorem ok_live_steps (T : Tx K mg) : Gd P w K mg base CX0 3 (He.fAd K ("live_steps", none)) ["steps"] [] spLive := by
  obtain ⟨fd_Wanted_init, G_Wanted_init, p_Wanted_init, ds_Wanted_init, v_Wanted_init, b_Wanted_init⟩ := ok_Wanted_init (P := P) (w := w) (base := base) T
  obtain ⟨fd_is_wanted, G_is_wanted, p_is_wanted, ds_is_wanted, v_is_wanted, b_is_wanted⟩ := ok_is_wanted (P := P) (w := w) (base := base) T
  obtain ⟨fd_want_parts, G_want_parts, p_want_parts, ds_want_parts, v_want_parts, b_want_parts⟩ := ok_want_parts (P := P) (w := w) (base := base) T
  refine gd_mk T.d_live_steps sc_live_steps (fun F => bn (bi_live_steps F)) (fun vs H Q E h => ?_) (fun cdv A outer s H vs Q E hr h => ?_)
  · obtain ⟨_, _, _, _, rfl, _⟩ := h
    rfl
  · obtain ⟨a, refs, sts, S', rfl, ha, hst, hl, e, k⟩ := h
    refine ⟨_, (pss_cons (ps_set (i := 1) sc_live_steps.nd rfl (Or.inl rfl) (pe_make0 T.k_Wanted G_Wanted_init (hr.mono (by decide)) rfl T.g_Wanted b_Wanted_init v_Wanted_init pass0))
  (pss_cons (ps_set (i := 2) sc_live_steps.nd rfl (Or.inl rfl) (pe_lst pa_nil))
  (pss_cons (ps_for PassesOwn.never rfl (pi_reversed (by rfl) T.b_reversed (pa_cons (pv 0) pa_nil)) (pg_name (i := 3) sc_live_steps.nd rfl (Or.inl rfl))
  (pss_one (ps_if (pt_val (pe_call G_is_wanted (hr.mono (by decide)) rfl T.g_is_wanted p_is_wanted b_is_wanted v_is_wanted pass0 (pa_cons (pv 1) (pa_cons (pv 3) pa_nil))))
  (pss_cons (ps_expr (pe_call G_want_parts (hr.mono (by decide)) rfl T.g_want_parts p_want_parts b_want_parts v_want_parts pass0 (pa_cons (pv 1) (pa_cons (pv 3) pa_nil))))
  (pss_one (ps_expr (pe_bm PySem.F.plainAttrs_list PySem.F.slot_list_append PySem.F.type_list_append mt_append (pv 2) (pa_cons (pv 3) pa_nil)))))
  pss_nil)))
  (pss_one (ps_ret (pe_listRev (by rfl) (by rfl) T.b_list (by rfl) T.b_reversed (pv 2))))))), ?_⟩
    refine fun x dx hx hdx hne => ⟨x, dx, rfl, upd_same, fun L H1 eL B1 own1 f1 => ⟨rfl, ?_⟩⟩
    have smd : Same H (upd (upd H dx (.own x)) x (.ins (He.ga K "Wanted") dx [])) := fun z o hz => by
      rw [upd_ne (ne_of_none hz hx), upd_ne (ne_of_none hz hdx)]
      exact hz
    have s1 : Same H H1 := fun z o hz => f1 z o (smd z o hz) (ne_of_none hz hx)
    have own0 : ∀ z, L.own z → H z = none := fun z hz => by
      rcases own1 z hz with e | e
      · rw [e]; exact hx
      · exact smd.free e
    subst eL
    have hlen : refs.length = sts.length := by
      rw [hst.length, List.length_map]
    refine ⟨(by show 0 ≤ sizeLine; decide), fun tq htq => ?_⟩
    have nt : ¬ L.own tq := B1.notNone htq
    have tq0 : H tq = none := s1.free htq
    refine ⟨_, rfl, a, refs, rfl, seql (same_new htq _ _ (s1 _ _ ha)), RT.for_Itv (K := K) (a := a) (xs := refs) (fun i σ H3 => ∃ (v1 : Option V) (Si : WS), σ = [some (.ref a), some (.ref L.wn), some (.ref tq), v1] ∧ WantAt K L Si H3 ∧ Same H H3 ∧ H3 tq = some (.lst (refs.reverse.take i)) ∧ liveL (sts.reverse.drop i) Si = some S') ?_ ?_ ?_ ?_⟩
    · exact ⟨_, WS0, rfl, B1.same (same_new htq), s1.trans (same_new htq), upd_same, e⟩
    · rintro i σ H3 ⟨v1, Si, rfl, B3, s3, ht3, e3⟩
      exact seql (s3 _ _ ha)
    · rintro i x σ H3 hi hx ⟨v1, Si, rfl, B3, s3, ht3, e3⟩
      obtain ⟨b, stv, hstv, rfl, hb⟩ := hst.at_ hx
      rw [List.getElem?_map] at hstv
      obtain ⟨st, hsti, rfl⟩ := Option.map_eq_some_iff.mp hstv
      have hrv : sts.reverse[i]? = some st := by
        rw [List.getElem?_reverse (by omega), ← hlen]
        exact hsti
      have hrr : refs.reverse[i]? = some (.ref b) := by
        rw [List.getElem?_reverse hi]
        exact hx
      rw [List.drop_eq_getElem_cons (List.getElem?_eq_some_iff.mp hrv).1, (List.getElem?_eq_some_iff.mp hrv).2] at e3
      have e3' : (if wantB Si st = true then (wantP Si st).bind fun S1 => liveL (sts.reverse.drop (i + 1)) S1 else none) = some S' := e3
      by_cases wb : wantB Si st = true
      rotate_left
      · rw [if_neg wb] at e3'
        cases e3'
      rw [if_pos wb] at e3'
      obtain ⟨S4, h4, e4⟩ := Option.bind_eq_some_iff.mp e3'
      have hb3 := s3 _ _ hb
      refine ⟨_, rfl, _, rfl, L, Si, b, st, rfl, B3, hb3, wb, fun H4 s4 => ⟨_, rfl, iteT ?_⟩⟩
      refine ⟨_, rfl, _, rfl, L, Si, S4, b, st, rfl, B3.same s4, s4 _ _ hb3, h4, fun H5 B5 f5 => ?_⟩
      have ht5 := f5 tq _ (s4 _ _ ht3) nt
      refine ⟨_, rfl, .inl ⟨rfl, _, .inl (.inl ht5)⟩, _, rfl, tq, _, _, rfl, rfl, ht5, ?_, ?_⟩
      · rw [List.length_take]
        exact small1000 (by omega)
      · refine ⟨_, S4, rfl, B5.other nt, fun z o hz => ?_, ?_, e4⟩
        · rw [upd_ne (ne_of_none hz tq0)]
          refine f5 z o (s4 z o (s3 z o hz)) fun own => ?_
          rw [own0 z own] at hz
          cases hz
        · rw [upd_same, List.take_add_one, hrr]
          rfl
    · rintro σ H3 ⟨v1, Si, rfl, B3, s3, ht3, e3⟩
      refine ⟨_, rfl, tq, _, rfl, seql ht3, fun q hq => ?_⟩
      refine k q _ (s3.free hq) (s3.trans (same_new hq)) ?_
      rw [upd_same]
      have h1 : refs.reverse.take refs.length = refs.reverse := by
        rw [← List.length_reverse (as := refs), List.take_length]
      rw [h1, List.reverse_reverse]
theorem sc_shorter_once : FnScope ["code", "told", "strip", "inside", "step"] ["code"] (defScope s_shorter_once) := ⟨rfl, rfl, rfl, by decide +kernel, rfl, by decide +kernel, by decide +kernel⟩
theorem bi_shorter_once {K : PySem.W.Frag} {f : Addr} {fd : FuncData} (F : FunD K "shorter_once" "shorter_once" (defArgs s_shorter_once) (defBody s_shorter_once) (defScope s_shorter_once) [] [] f fd) : Binds K fd ["code"] [] := F.bindsN fun _ _ _ _ _ _ us hl => match us, hl with | [_], _ => rfl
theorem ok_shorter_once (T : Tx K mg) : Gd P w K mg base CX0 8 (He.fAd K ("shorter_once", none)) ["code"] [] spOnce := by
  obtain ⟨fd_live_steps, G_live_steps, p_live_steps, ds_live_steps, v_live_steps, b_live_steps⟩ := ok_live_steps (P := P) (w := w) (base := base) T
  obtain ⟨fd_known_steps, G_known_steps, p_known_steps, ds_known_steps, v_known_steps, b_known_steps⟩ := ok_known_steps (P := P) (w := w) (base := base) T
  refine gd_mk T.d_shorter_once sc_shorter_once (fun F => bn (bi_shorter_once F)) (fun vs H Q E h => ?_) (fun cdv A outer s H vs Q E hr h => ?_)
  · obtain ⟨_, _, _, _, _, rfl, _⟩ := h
    rfl
  · obtain ⟨a, refs, b, nx, mid, rfl, ha, F, hst, k⟩ := h
    refine ⟨_, (pss_cons (ps_set (i := 1) sc_shorter_once.nd rfl (Or.inl rfl) (pe_lst pa_nil))
  (pss_cons (ps_set (i := 2) sc_shorter_once.nd rfl (Or.inl rfl) (pe_lst pa_nil))
  (pss_cons (ps_set (i := 3) sc_shorter_once.nd rfl (Or.inl rfl) pe_bl)
  (pss_cons (ps_for PassesOwn.never rfl (pi_list (pv 0)) (pg_name (i := 4) sc_shorter_once.nd rfl (Or.inl rfl))
  (pss_cons (ps_if (pt_cmpR op_eq (pe_ix ix_tup (pv 4) pe_int (fun _ _ => rfl)) pe_str (nomark _))
  (pss_cons (ps_set (i := 3) sc_shorter_once.nd rfl (Or.inl rfl) pe_bl)
  (pss_one (ps_set (i := 2) sc_shorter_once.nd rfl (Or.inl rfl) (pe_lst pa_nil))))
  pss_nil)
  (pss_cons (ps_if (pt_cmpR op_eq (pe_ix ix_tup (pv 4) pe_int (fun _ _ => rfl)) pe_str (nomark _))
  (pss_cons (ps_set (i := 3) sc_shorter_once.nd rfl (Or.inl rfl) pe_bl)
  (pss_one (ps_expr (pe_bm PySem.F.plainAttrs_list PySem.F.slot_list_extend PySem.F.type_list_extend mt_extend (pv 1) (pa_cons (pe_call G_live_steps (hr.mono (by decide)) rfl T.g_live_steps p_live_steps b_live_steps v_live_steps pass0 (pa_cons (pe_call G_known_steps (hr.mono (by decide)) rfl T.g_known_steps p_known_steps b_known_steps v_known_steps pass0 (pa_cons (pv 2) pa_nil)) pa_nil)) pa_nil)))))
  pss_nil)
  (pss_one (ps_if (PW.pt (pw_and (pt_val (pv 3)) (pw_and1 (pt_cmpR op_ne (pe_ix ix_tup (pv 4) pe_int (fun _ _ => rfl)) pe_str (nomark _)))))
  (pss_one (ps_expr (pe_bm PySem.F.plainAttrs_list PySem.F.slot_list_append PySem.F.type_list_append mt_append (pv 2) (pa_cons (pv 4) pa_nil))))
  (pss_one (ps_expr (pe_bm PySem.F.plainAttrs_list PySem.F.slot_list_append PySem.F.type_list_append mt_append (pv 1) (pa_cons (pv 4) pa_nil)))))))))
  (pss_one (ps_ret (pv 1))))))), ?_⟩
    refine ⟨(by show 0 ≤ sizeLine; decide), fun tq htq => ?_⟩
    refine ⟨(by show 0 ≤ sizeLine; decide), fun zq hzq => ?_⟩
    have nzt : tq ≠ zq := fun e => by
      rw [← e, upd_same] at hzq
      cases hzq
    have zq0 : H zq = none := by
      rw [upd_ne nzt.symm] at hzq
      exact hzq
    have s1 : Same H (upd (upd H tq (.lst [])) zq (.lst [])) := (same_new htq).trans (same_new hzq)
    -- the parts of the code
    have hst0 : StepsAt H refs (b.v :: (mid.map Sx.v ++ [nx.v])) := by
      have e : (b :: (mid ++ [nx])).map Sx.v = b.v :: (mid.map Sx.v ++ [nx.v]) := by
        rw [List.map_cons, List.map_append]
        rfl
      rw [← e]
      exact hst
    obtain ⟨rb, rr, rfl, h1, h2⟩ : ∃ rb rr, refs = V.ref rb :: rr ∧ H rb = some (.tup b.v) ∧ StepsAt H rr (mid.map Sx.v ++ [nx.v]) := by
      cases hst0 with
      | cons r t =>
        obtain ⟨rb, rfl, h⟩ := r
        exact ⟨rb, _, rfl, h, t⟩
    obtain ⟨rm, rl, rfl, h3, h4⟩ := h2.split
    obtain ⟨rn, rfl, h5⟩ : ∃ rn, rl = [V.ref rn] ∧ H rn = some (.tup nx.v) := by
      cases h4 with
      | cons r t =>
        obtain ⟨rn, rfl, h⟩ := r
        cases t
        exact ⟨rn, rfl, h⟩
    have hml : rm.length = mid.length := by rw [h3.length, List.length_map]
    have h4l := F.len
    obtain ⟨SK, hSK⟩ := F.known
    obtain ⟨SL, hSL⟩ := F.live
    have same0 : ∀ {H2 H3 : Hp} {c : Addr}, Same H H2 → H c = none → ButL c H2 H3 → Same H H3 := fun s hc f z o hz => f z o (s z o hz) (ne_of_none hz hc)
    refine ⟨_, rfl, a, rfl, ⟨_, seql (s1 _ _ ha)⟩, for_list (K := K) (a := a) (xs := V.ref rb :: (rm ++ [V.ref rn])) (fun i σ H3 => ∃ (sq : Addr) (ins : Bool) (v1 : Option V), σ = [some (.ref a), some (.ref tq), some (.ref sq), some (.bl ins), v1] ∧ Same H H3 ∧
      ((i = 0 ∧ ins = false ∧ H3 tq = some (.lst [])) ∨ (∃ j, i = j + 1 ∧ j ≤ rm.length ∧ ins = true ∧ H3 tq = some (.lst [V.ref rb]) ∧ H3 sq = some (.lst (rm.take j)) ∧ sq ≠ tq ∧ H sq = none) ∨
        (i = rm.length + 2 ∧ ∃ ys, H3 tq = some (.lst ys) ∧ StepsAt H3 ys (b.v :: (mid.map Sx.v ++ [nx.v]))))) ?_ ?_ ?_ ?_⟩
    · exact ⟨zq, false, _, rfl, s1, .inl ⟨rfl, rfl, upa nzt upd_same⟩⟩
    · rintro i σ H3 hi ⟨sq, ins, v1, rfl, s3, _⟩
      exact seql (s3 _ _ ha)
    · rintro i x σ H3 hx ⟨sq, ins, v1, rfl, s3, c⟩
      rcases c with ⟨rfl, rfl, ht⟩ | ⟨j, rfl, hj, rfl, ht, hs, nst, sq0⟩ | ⟨rfl, _⟩
      · -- begin
        obtain rfl : x = V.ref rb := (Option.some.inj hx).symm
        have hb3 := s3 _ _ h1
        refine ⟨_, rfl, rb, _, _, _, rfl, rfl, seqt hb3, atI_nat (j := 0) b.v0, rfl, _, rfl, ?_⟩
        rw [decide_eq_true (show V.str b.w = V.str "begin" by rw [F.bw])]
        refine iteT ⟨(by show 0 ≤ sizeLine; decide), fun sq2 hs2 => ?_⟩
        have s4 := s3.trans (same_new (o := .lst []) hs2)
        have hb4 := s4 _ _ h1
        refine ⟨_, rfl, rb, _, _, _, rfl, rfl, seqt hb4, atI_nat (j := 0) b.v0, rfl, _, rfl, ?_⟩
        rw [decide_eq_false (show ¬ V.str b.w = V.str "next" from fun z => by have := V.str.inj z; rw [F.bw] at this; revert this; decide)]
        refine iteF ⟨_, rfl, _, rfl, iteT ⟨_, rfl, rb, _, _, _, rfl, rfl, seqt hb4, atI_nat (j := 0) b.v0, rfl, _, rfl, ?_⟩⟩
        rw [decide_eq_true (show V.str b.w = V.str "begin" by rw [F.bw])]
        have nt2 : tq ≠ sq2 := ne_of_none ht hs2
        have ht4 : upd H3 sq2 (.lst []) tq = some (.lst []) := upa nt2 ht
        refine iteF ⟨_, rfl, .inl ⟨rfl, _, .inl (.inl ht4)⟩, _, rfl, tq, _, _, rfl, rfl, ht4, small1000 (Nat.zero_le _), ?_⟩
        exact ⟨sq2, true, _, rfl, same0 s4 htq ButL.put, .inr (.inl ⟨0, rfl, Nat.zero_le _, rfl, upd_same, upa nt2.symm upd_same, nt2.symm, s3.free hs2⟩)⟩
      · have hx' : (rm ++ [V.ref rn])[j]? = some x := hx
        by_cases hjl : j < rm.length
        · -- within
          rw [List.getElem?_append_left hjl] at hx'
          obtain ⟨bb, stv, hstv, rfl, hb⟩ := h3.at_ hx'
          rw [List.getElem?_map] at hstv
          obtain ⟨st, hsti, rfl⟩ := Option.map_eq_some_iff.mp hstv
          have hw := F.mw st (List.mem_of_getElem? hsti)
          have hb3 := s3 _ _ hb
          refine ⟨_, rfl, bb, _, _, _, rfl, rfl, seqt hb3, atI_nat (j := 0) st.v0, rfl, _, rfl, ?_⟩
          rw [decide_eq_false (show ¬ V.str st.w = V.str "begin" from fun z => hw.1 (V.str.inj z))]
          refine iteF ⟨_, rfl, bb, _, _, _, rfl, rfl, seqt hb3, atI_nat (j := 0) st.v0, rfl, _, rfl, ?_⟩
          rw [decide_eq_false (show ¬ V.str st.w = V.str "next" from fun z => hw.2 (V.str.inj z))]
          refine iteF ⟨_, rfl, _, rfl, iteT ⟨_, rfl, bb, _, _, _, rfl, rfl, seqt hb3, atI_nat (j := 0) st.v0, rfl, _, rfl, ?_⟩⟩
          rw [decide_eq_false (show ¬ V.str st.w = V.str "begin" from fun z => hw.1 (V.str.inj z))]
          refine iteT ⟨_, rfl, .inl ⟨rfl, _, .inl (.inl hs)⟩, _, rfl, sq, _, _, rfl, rfl, hs, ?_, ?_⟩
          · rw [List.length_take]
            exact small1000 (by omega)
          · refine ⟨sq, true, _, rfl, same0 s3 sq0 ButL.put, .inr (.inl ⟨j + 1, rfl, hjl, rfl, upa nst.symm ht, ?_, nst, sq0⟩)⟩
            rw [upd_same, List.take_add_one, hx']
            rfl
        · -- next
          obtain rfl : j = rm.length := by omega
          rw [List.getElem?_append_right (Nat.le_refl _), Nat.sub_self] at hx'
          obtain rfl : x = V.ref rn := (Option.some.inj hx').symm
          rw [List.take_length] at hs
          have hb3 := s3 _ _ h5
          refine ⟨_, rfl, rn, _, _, _, rfl, rfl, seqt hb3, atI_nat (j := 0) nx.v0, rfl, _, rfl, ?_⟩
          rw [decide_eq_false (show ¬ V.str nx.w = V.str "begin" from fun z => by have := V.str.inj z; rw [F.nw] at this; revert this; decide)]
          refine iteF ⟨_, rfl, rn, _, _, _, rfl, rfl, seqt hb3, atI_nat (j := 0) nx.v0, rfl, _, rfl, ?_⟩
          rw [decide_eq_true (show V.str nx.w = V.str "next" by rw [F.nw])]
          refine iteT ⟨_, rfl, .inl ⟨rfl, _, .inl (.inl ht)⟩, _, rfl, sq, rm, mid, SK, rfl, hs, h3.same s3, by omega, hSK, fun qk H4 ys hqk s4 hq4 hy4 => ?_⟩
          refine ⟨qk, ys, mid, SL, rfl, hq4, hy4, by omega, hSL, fun ql H5 hql s5 hq5 => ?_⟩
          have s35 := s4.trans s5
          have ht5 := s35 _ _ ht
          have hyl : ys.length = mid.length := by rw [hy4.length, List.length_map]
          refine ⟨tq, ql, [V.ref rb], ys, rfl, rfl, ht5, hq5, Nat.le_of_lt (small1000 (by simp; omega)), ?_⟩
          have s6 : Same H (upd H5 tq (.lst ([V.ref rb] ++ ys))) := same0 (s3.trans s35) htq ButL.put
          refine ⟨_, rfl, _, rfl, iteF (iteF ⟨_, rfl, .inl ⟨rfl, _, .inl (.inl upd_same)⟩, _, rfl, tq, _, _, rfl, rfl, upd_same, small1000 (by simp; omega), ?_⟩)⟩
          refine ⟨sq, false, _, rfl, same0 s6 htq ButL.put, .inr (.inr ⟨rfl, _, upd_same, ?_⟩)⟩
          have put : ∀ z l, H5 z = some (.tup l) → upd (upd H5 tq (.lst ([V.ref rb] ++ ys))) tq (.lst ([V.ref rb] ++ ys ++ [V.ref rn])) z = some (.tup l) := fun z l hz => by
            have nz := ne_of hz ht5 (by intro y; cases y)
            rw [upd_ne nz, upd_ne nz]
            exact hz
          have s05 := s3.trans s35
          exact StepsAt.append (l := [V.ref rb] ++ ys) (x := b.v :: mid.map Sx.v) (.cons ⟨rb, rfl, put _ _ (s05 _ _ h1)⟩ ((hy4.same s5).keep put)) (.cons ⟨rn, rfl, put _ _ (s05 _ _ h5)⟩ .nil)
      · rw [List.getElem?_eq_none (by simp)] at hx
        cases hx
    · rintro σ H3 ⟨sq, ins, v1, rfl, s3, c⟩
      rcases c with ⟨h, _⟩ | ⟨j, h, hj, _⟩ | ⟨_, ys, ht, hy⟩
      · simp at h
      · simp at h
        omega
      · refine ⟨_, rfl, k tq H3 ys htq s3 ht ?_⟩
        have e : (b :: (mid ++ [nx])).map Sx.v = b.v :: (mid.map Sx.v ++ [nx.v]) := by
          rw [List.map_cons, List.map_append]
          rfl
        rw [e]
        exact hy
theorem sc_shortened : FnScope ["code", "told", "many"] ["code"] (defScope s_shortened) := ⟨rfl, rfl, rfl, by decide +kernel, rfl, by decide +kernel, by decide +kernel⟩
theorem bi_shortened {K : PySem.W.Frag} {f : Addr} {fd : FuncData} (F : FunD K "shortened" "shortened" (defArgs s_shortened) (defBody s_shortened) (defScope s_shortened) [] [] f fd) : Binds K fd ["code"] [] := F.bindsN fun _ _ _ _ _ _ us hl => match us, hl with | [_], _ => rfl
theorem ok_shortened (T : Tx K mg) : Gd P w K mg base CX0 9 (He.fAd K ("shortened", none)) ["code"] [] spOnce := by
  obtain ⟨fd_shorter_once, G_shorter_once, p_shorter_once, ds_shorter_once, v_shorter_once, b_shorter_once⟩ := ok_shorter_once (P := P) (w := w) (base := base) T
  refine gd_mk T.d_shortened sc_shortened (fun F => bn (bi_shortened F)) (fun vs H Q E h => ?_) (fun cdv A outer s H vs Q E hr h => ?_)
  · obtain ⟨_, _, _, _, _, rfl, _⟩ := h
    rfl
  · obtain ⟨a, refs, b, nx, mid, rfl, ha, F, hst, k⟩ := h
    refine ⟨_, (pss_cons (ps_set (i := 1) sc_shortened.nd rfl (Or.inl rfl) (pe_call G_shorter_once (hr.mono (by decide)) rfl T.g_shorter_once p_shorter_once b_shorter_once v_shorter_once pass0 (pa_cons (pv 0) pa_nil)))
  (pss_cons (ps_set (i := 2) sc_shortened.nd rfl (Or.inl rfl) (pe_callB call_len_seq (by rfl) T.b_len boot_len (pa_cons (pv 0) pa_nil)))
  (pss_cons (ps_while PassesOwn.never (pt_cmpR op_lt (pe_callB call_len_seq (by rfl) T.b_len boot_len (pa_cons (pv 1) pa_nil)) (pv 2) (nomark _))
  (pss_cons (ps_set (i := 2) sc_shortened.nd rfl (Or.inl rfl) (pe_callB call_len_seq (by rfl) T.b_len boot_len (pa_cons (pv 1) pa_nil)))
  (pss_one (ps_set (i := 1) sc_shortened.nd rfl (Or.inl rfl) (pe_call G_shorter_once (hr.mono (by decide)) rfl T.g_shorter_once p_shorter_once b_shorter_once v_shorter_once pass0 (pa_cons (pv 1) pa_nil))))))
  (pss_one (ps_ret (pv 1)))))), ?_⟩
    refine ⟨_, rfl, a, refs, b, nx, mid, rfl, ha, F, hst, fun q H1 ys hq s1 hq1 hy => ?_⟩
    have hl : ys.length = refs.length := by rw [hy.length, hst.length]
    refine ⟨_, rfl, a, _, rfl, .inl (seql (s1 _ _ ha)), ?_⟩
    refine ⟨fun _ σ H2 => H2 = H1 ∧ σ = [some (.ref a), some (.ref q), some (.int (refs.length : Nat))], ⟨0, rfl, rfl⟩, ?_⟩
    rintro m σ H2 ⟨rfl, rfl⟩
    refine ⟨_, rfl, q, _, rfl, .inl (seql hq1), _, rfl, _, _, rfl, rfl, _, rfl, ?_⟩
    rw [decide_eq_false (show ¬ (ys.length : Int) < (refs.length : Int) by omega)]
    exact iteF ⟨_, rfl, k q _ ys hq s1 hq1 hy⟩
end
end Rb
set_option Elab.async false
set_option linter.all false
set_option maxRecDepth 100000
set_option maxHeartbeats 4000000
/-! the law's own small defs -/
namespace Rb
open PySem PySem.Spec PyProof.Rows L2
def spWhole : Sp := fun vs H Q _ => ∃ i : Int, vs = [.int i] ∧ Q (.bl true) H
def cellOf (xs : List Int) (k : Nat) : Int := (xs[k]?).getD 0
def spCellAt (K : PySem.W.Frag) : Sp := fun vs H Q _ => ∃ (a : Addr) (xs : List Int) (k : Nat), vs = [.ref a, .int k] ∧ SqL K H a (xs.map V.int) ∧ Q (.int (cellOf xs k)) H
def spWrap : Sp := fun vs H Q _ => ∃ n : Int, vs = [.int n] ∧ Q (.int (kp n)) H
def edges : List Int := [-9223372036854775808, 9223372036854775807, -1, 4294967296, -9223372036854775807, 3037000500]
def keptBy (c : Int) : Int :=
  if c % 4 = 0 then c / 4 % 7 - 3 else if c % 4 = 1 then (edges[(c / 4 % 6).toNat]?).getD 0 else if c % 4 = 2 then c / 4 * 48271 % 2001 - 1000 else c / 4 * 2862933555777941757 % 18446744073709551616 - 9223372036854775808
def spKeptBy : Sp := fun vs H Q _ => ∃ c : Int, vs = [.int c] ∧ ∀ H', Same H H' → Q (.int (keptBy c)) H'
theorem keptBy_in (c : Int) : -(2 ^ 63) ≤ keptBy c ∧ keptBy c < 2 ^ 63 := by
  unfold keptBy
  split
  · omega
  · split
    · have h : (c / 4 % 6).toNat < 6 := by omega
      have : ∀ i, i < 6 → -(2 ^ 63) ≤ (edges[i]?).getD 0 ∧ (edges[i]?).getD 0 < 2 ^ 63 := by decide
      exact this _ h
    · split <;> omega
def someAt (xs : List Int) (at_ : Int) (k : Nat) : Int := keptBy ((if 0 < xs.length then (xs[((at_ + 5 * (k : Int)) % (xs.length : Int)).toNat]?).getD 0 else 0) / (1 + (k : Int) % 3) + 7 * (k : Int) * (k : Int) + 3 * at_)
def someL (xs : List Int) (at_ : Int) (n : Nat) : List Int := (List.range n).map fun k => someAt xs at_ k
section
variable {P : Program} {w : World} {K : PySem.W.Frag} {mg : Str → Option Value} {base : Heap}
theorem sc_law_whole : FnScope ["_law_found"] ["_law_found"] (defScope s_law_whole) := ⟨rfl, rfl, rfl, by decide +kernel, rfl, by decide +kernel, by decide +kernel⟩
theorem bi_law_whole {K : PySem.W.Frag} {f : Addr} {fd : FuncData} (F : FunD K "_law_whole" "_law_whole" (defArgs s_law_whole) (defBody s_law_whole) (defScope s_law_whole) [] [] f fd) : Binds K fd ["_law_found"] [] := F.bindsN fun _ _ _ _ _ _ us hl => match us, hl with | [_], _ => rfl
theorem ok_law_whole (T : Tx K mg) : Gd P w K mg base CX0 1 (He.fAd K ("_law_whole", none)) ["_law_found"] [] spWhole := by
  refine gd_mk T.d_law_whole sc_law_whole (fun F => bn (bi_law_whole F)) (fun vs H Q E h => ?_) (fun cdv A outer s H vs Q E hr h => ?_)
  · obtain ⟨_, rfl, _⟩ := h
    rfl
  · obtain ⟨i, rfl, k⟩ := h
    refine ⟨_, (pss_one (ps_ret (pe_and (pe_callB call_isi (by rfl) T.b_isinstance (by decide +kernel) (pa_cons (pv 0) (pa_cons (pe_bltn (v := .ty "int") (u := .type "int") (by rfl) T.b_int (by decide +kernel) rfl) pa_nil))) (pe_one (pe_not (pe_callB call_isi (by rfl) T.b_isinstance (by decide +kernel) (pa_cons (pv 0) (pa_cons (pe_bltn (v := .ty "bool") (u := .type "bool") (by rfl) T.b_bool (by decide +kernel) rfl) pa_nil)))))))), ?_⟩
    refine ⟨_, rfl, _, _, _, _, true, rfl, .ty _, .base (.int i), kit_ty (by decide +kernel), _, rfl, iteT ?_⟩
    refine ⟨_, rfl, _, _, _, _, false, rfl, .ty _, .base (.int i), kit_ty (by decide +kernel), _, rfl, k⟩
theorem sc_law_cell_at : FnScope ["_law_script", "_law_k"] ["_law_script", "_law_k"] (defScope s_law_cell_at) := ⟨rfl, rfl, rfl, by decide +kernel, rfl, by decide +kernel, by decide +kernel⟩
theorem bi_law_cell_at {K : PySem.W.Frag} {f : Addr} {fd : FuncData} (F : FunD K "_law_cell_at" "_law_cell_at" (defArgs s_law_cell_at) (defBody s_law_cell_at) (defScope s_law_cell_at) [] [] f fd) : Binds K fd ["_law_script", "_law_k"] [] := F.bindsN fun _ _ _ _ _ _ us hl => match us, hl with | [_, _], _ => rfl
theorem ok_law_cell_at (T : Tx K mg) : Gd P w K mg base CX0 1 (He.fAd K ("_law_cell_at", none)) ["_law_script", "_law_k"] [] (spCellAt K) := by
  refine gd_mk T.d_law_cell_at sc_law_cell_at (fun F => bn (bi_law_cell_at F)) (fun vs H Q E h => ?_) (fun cdv A outer s H vs Q E hr h => ?_)
  · obtain ⟨_, _, _, rfl, _⟩ := h
    rfl
  · obtain ⟨a, xs, i, rfl, hS, k⟩ := h
    refine ⟨_, (pss_cons (ps_if (pt_cmpR op_lt (pv 1) (pe_callB call_len_seq (by rfl) T.b_len boot_len (pa_cons (pv 0) pa_nil)) (nomark _))
  (pss_one (ps_ret (pe_ix ix_list (pv 0) (pv 1) (fun _ _ => rfl))))
  pss_nil)
  (pss_one (ps_ret pe_int))), ?_⟩
    refine ⟨_, rfl, _, rfl, a, _, rfl, .inl hS, _, _, rfl, rfl, _, rfl, ?_⟩
    rw [List.length_map]
    unfold cellOf at k
    by_cases h : i < xs.length
    · rw [decide_eq_true (show (i : Int) < (xs.length : Int) by omega)]
      rw [List.getElem?_eq_getElem h] at k
      refine iteT ⟨_, rfl, _, rfl, a, _, _, _, rfl, rfl, hS, atI_nat (j := i) ?_, k⟩
      rw [List.getElem?_map, List.getElem?_eq_getElem h]
      rfl
    · rw [decide_eq_false (show ¬ (i : Int) < (xs.length : Int) by omega)]
      rw [List.getElem?_eq_none (by omega)] at k
      exact iteF k
theorem sc_law_wrap : FnScope ["_law_number"] ["_law_number"] (defScope s_law_wrap) := ⟨rfl, rfl, rfl, by decide +kernel, rfl, by decide +kernel, by decide +kernel⟩
theorem bi_law_wrap {K : PySem.W.Frag} {f : Addr} {fd : FuncData} (F : FunD K "_law_wrap" "_law_wrap" (defArgs s_law_wrap) (defBody s_law_wrap) (defScope s_law_wrap) [] [] f fd) : Binds K fd ["_law_number"] [] := F.bindsN fun _ _ _ _ _ _ us hl => match us, hl with | [_], _ => rfl
theorem ok_law_wrap (T : Tx K mg) : Gd P w K mg base CX0 1 (He.fAd K ("_law_wrap", none)) ["_law_number"] [] spWrap := by
  refine gd_mk T.d_law_wrap sc_law_wrap (fun F => bn (bi_law_wrap F)) (fun vs H Q E h => ?_) (fun cdv A outer s H vs Q E hr h => ?_)
  · obtain ⟨_, rfl, _⟩ := h
    rfl
  · obtain ⟨n, rfl, k⟩ := h
    refine ⟨_, (pss_one (ps_ret (pe_op op_sub (pe_op op_mod (pe_op op_add (pv 0) pe_int) pe_int) pe_int))), ?_⟩
    unfold kp at k
    rw [Int.fmod_eq_emod_of_nonneg _ (by decide)] at k
    exact ⟨_, rfl, _, _, rfl, rfl, _, _, rfl, rfl, (show (0 : Int) < 18446744073709551616 by decide), _, _, rfl, rfl, k⟩
theorem sc_law_kept_by : FnScope ["_law_cell", "_law_how", "_law_edges"] ["_law_cell"] (defScope s_law_kept_by) := ⟨rfl, rfl, rfl, by decide +kernel, rfl, by decide +kernel, by decide +kernel⟩
theorem bi_law_kept_by {K : PySem.W.Frag} {f : Addr} {fd : FuncData} (F : FunD K "_law_kept_by" "_law_kept_by" (defArgs s_law_kept_by) (defBody s_law_kept_by) (defScope s_law_kept_by) [] [] f fd) : Binds K fd ["_law_cell"] [] := F.bindsN fun _ _ _ _ _ _ us hl => match us, hl with | [_], _ => rfl
theorem ok_law_kept_by (T : Tx K mg) : Gd P w K mg base CX0 1 (He.fAd K ("_law_kept_by", none)) ["_law_cell"] [] spKeptBy := by
  refine gd_mk T.d_law_kept_by sc_law_kept_by (fun F => bn (bi_law_kept_by F)) (fun vs H Q E h => ?_) (fun cdv A outer s H vs Q E hr h => ?_)
  · obtain ⟨_, rfl, _⟩ := h
    rfl
  · obtain ⟨c, rfl, k⟩ := h
    refine ⟨_, (pss_cons (ps_set (i := 1) sc_law_kept_by.nd rfl (Or.inl rfl) (pe_op op_mod (pv 0) pe_int))
  (pss_cons (ps_if (pt_cmpR op_eq (pv 1) pe_int (nomark _))
  (pss_one (ps_ret (pe_op op_sub (pe_op op_mod (pe_op op_fdiv (pv 0) pe_int) pe_int) pe_int)))
  pss_nil)
  (pss_cons (ps_if (pt_cmpR op_eq (pv 1) pe_int (nomark _))
  (pss_cons (ps_set (i := 2) sc_law_kept_by.nd rfl (Or.inl rfl) (pe_lst (pa_cons (pe_un un_neg pe_int) (pa_cons pe_int (pa_cons (pe_un un_neg pe_int) (pa_cons pe_int (pa_cons (pe_un un_neg pe_int) (pa_cons pe_int pa_nil))))))))
  (pss_one (ps_ret (pe_ix ix_list (pv 2) (pe_op op_mod (pe_op op_fdiv (pv 0) pe_int) pe_int) (fun _ _ => rfl)))))
  pss_nil)
  (pss_cons (ps_if (pt_cmpR op_eq (pv 1) pe_int (nomark _))
  (pss_one (ps_ret (pe_op op_sub (pe_op op_mod (pe_op op_mul (pe_op op_fdiv (pv 0) pe_int) pe_int) pe_int) pe_int)))
  pss_nil)
  (pss_one (ps_ret (pe_op op_sub (pe_op op_mod (pe_op op_mul (pe_op op_fdiv (pv 0) pe_int) pe_int) pe_int) pe_int))))))), ?_⟩
    unfold keptBy at k
    have d4 : CDiv c 4 := ⟨by decide, by decide⟩
    refine ⟨_, rfl, _, _, rfl, rfl, (show (0 : Int) < 4 by decide), _, rfl, rfl, _, rfl, ?_⟩
    by_cases e0 : c % 4 = 0
    · rw [if_pos e0] at k
      rw [decide_eq_true (show V.int (c % 4) = V.int 0 by rw [e0])]
      exact iteT ⟨_, rfl, _, _, rfl, rfl, d4, _, _, rfl, rfl, (show (0 : Int) < 7 by decide), _, _, rfl, rfl, k _ (Same.refl _)⟩
    rw [if_neg e0] at k
    rw [decide_eq_false (show ¬ V.int (c % 4) = V.int 0 from fun z => e0 (V.int.inj z))]
    refine iteF ⟨_, rfl, rfl, _, rfl, ?_⟩
    by_cases e1 : c % 4 = 1
    · rw [if_pos e1] at k
      rw [decide_eq_true (show V.int (c % 4) = V.int 1 by rw [e1])]
      refine iteT ⟨_, rfl, _, rfl, _, rfl, (by show 6 ≤ sizeLine; decide), fun q hq => ?_⟩
      have h6 : (c / 4 % 6).toNat < 6 := by omega
      have e6 : c / 4 % 6 = ((c / 4 % 6).toNat : Int) := by omega
      refine ⟨_, rfl, _, rfl, _, _, rfl, rfl, d4, _, _, rfl, rfl, (show (0 : Int) < 6 by decide), q, edges.map V.int, _, .int ((edges[(c / 4 % 6).toNat]?).getD 0), rfl, rfl, seql upd_same, ?_, k _ (same_new hq)⟩
      rw [e6]
      refine atI_nat ?_
      rw [List.getElem?_map, Int.toNat_natCast]
      generalize (c / 4 % 6).toNat = i at h6
      have : ∀ i, i < 6 → (edges[i]?).map V.int = some (.int ((edges[i]?).getD 0)) := fun i hi => by
        rw [List.getElem?_eq_getElem (show i < edges.length from hi)]
        rfl
      exact this i h6
    rw [if_neg e1] at k
    rw [decide_eq_false (show ¬ V.int (c % 4) = V.int 1 from fun z => e1 (V.int.inj z))]
    refine iteF ⟨_, rfl, rfl, _, rfl, ?_⟩
    by_cases e2 : c % 4 = 2
    · rw [if_pos e2] at k
      rw [decide_eq_true (show V.int (c % 4) = V.int 2 by rw [e2])]
      exact iteT ⟨_, rfl, _, _, rfl, rfl, d4, _, _, rfl, rfl, .inr ⟨by decide, by decide⟩, _, _, rfl, rfl, (show (0 : Int) < 2001 by decide), _, _, rfl, rfl, k _ (Same.refl _)⟩
    rw [if_neg e2] at k
    rw [decide_eq_false (show ¬ V.int (c % 4) = V.int 2 from fun z => e2 (V.int.inj z))]
    exact iteF ⟨_, rfl, _, _, rfl, rfl, d4, _, _, rfl, rfl, .inr ⟨by decide, by decide⟩, _, _, rfl, rfl, (show (0 : Int) < 18446744073709551616 by decide), _, _, rfl, rfl, k _ (Same.refl _)⟩
theorem sc_law_some : FnScope ["_law_script", "_law_at", "_law_count", "_law_out", "_law_k", "_law_cell"] ["_law_script", "_law_at", "_law_count"] (defScope s_law_some) := ⟨rfl, rfl, rfl, by decide +kernel, rfl, by decide +kernel, by decide +kernel⟩
theorem bi_law_some {K : PySem.W.Frag} {f : Addr} {fd : FuncData} (F : FunD K "_law_some" "_law_some" (defArgs s_law_some) (defBody s_law_some) (defScope s_law_some) [] [] f fd) : Binds K fd ["_law_script", "_law_at", "_law_count"] [] := F.bindsN fun _ _ _ _ _ _ us hl => match us, hl with | [_, _, _], _ => rfl
def spSome (K : PySem.W.Frag) : Sp := fun vs H Q _ => ∃ (a : Addr) (xs : List Int) (at_ : Int) (n : Nat), vs = [.ref a, .int at_, .int n] ∧ SqL K H a (xs.map V.int) ∧ 0 ≤ at_ ∧ n ≤ 1000 ∧ xs.length ≤ 1000000 ∧ ∀ q H', H q = none → Same H H' → H' q = some (.lst ((someL xs at_ n).map V.int)) → Q (.ref q) H'
theorem ok_law_some (T : Tx K mg) : Gd P w K mg base CX0 2 (He.fAd K ("_law_some", none)) ["_law_script", "_law_at", "_law_count"] [] (spSome K) := by
  obtain ⟨fd_law_kept_by, G_law_kept_by, p_law_kept_by, ds_law_kept_by, v_law_kept_by, b_law_kept_by⟩ := ok_law_kept_by (P := P) (w := w) (base := base) T
  refine gd_mk T.d_law_some sc_law_some (fun F => bn (bi_law_some F)) (fun vs H Q E h => ?_) (fun cdv A outer s H vs Q E hr h => ?_)
  · obtain ⟨_, _, _, _, rfl, _⟩ := h
    rfl
  · obtain ⟨a, xs, at_, n, rfl, hS, ha0, hn, hxl, k⟩ := h
    refine ⟨_, (pss_cons (ps_set (i := 3) sc_law_some.nd rfl (Or.inl rfl) (pe_lst pa_nil))
  (pss_cons (ps_for PassesOwn.never rfl (pi_range1 rfl T.b_range (pa_cons (pv 2) pa_nil)) (pg_name (i := 4) sc_law_some.nd rfl (Or.inl rfl))
  (pss_cons (ps_set (i := 5) sc_law_some.nd rfl (Or.inl rfl) pe_int)
  (C8.pss_cut (ps_if (pt_cmpR op_gt (pe_callB call_len_seq (by rfl) T.b_len boot_len (pa_cons (pv 0) pa_nil)) pe_int (nomark _))
  (pss_one (ps_set (i := 5) sc_law_some.nd rfl (Or.inl rfl) (pe_ix ix_list (pv 0) (pe_op op_modN (pe_op op_add (pv 1) (pe_op op_mul pe_int (pv 4))) (pe_callB call_len_seq (by rfl) T.b_len boot_len (pa_cons (pv 0) pa_nil))) (fun _ _ => rfl))))
  pss_nil)
  (pss_one (ps_expr (pe_bm PySem.F.plainAttrs_list PySem.F.slot_list_append PySem.F.type_list_append mt_append (pv 3) (pa_cons (pe_call G_law_kept_by (hr.mono (by decide)) rfl T.g_law_kept_by p_law_kept_by b_law_kept_by v_law_kept_by pass0 (pa_cons (pe_op op_add (pe_op op_add (pe_op op_fdivN (pv 5) (pe_op op_add pe_int (pe_op op_mod (pv 4) pe_int))) (pe_op op_mul (pe_op op_mul pe_int (pv 4)) (pv 4))) (pe_op op_mul pe_int (pv 1))) pa_nil)) pa_nil)))))))
  (pss_one (ps_ret (pv 3))))), ?_⟩
    refine ⟨(by show 0 ≤ sizeLine; decide), fun q hq => ?_⟩
    refine ⟨_, rfl, _, rfl, by omega, by omega, for_range (lo := 0) (n := n) (fun i σ H2 => ∃ (v1 v2 : Option V), σ = [some (.ref a), some (.int at_), some (.int (n : Nat)), some (.ref q), v1, v2] ∧ Same H H2 ∧ H2 q = some (.lst ((someL xs at_ i).map V.int))) ?_ ?_ ?_⟩
    · exact ⟨_, _, rfl, same_new hq, upd_same⟩
    · rintro i σ H2 hi ⟨v1, v2, rfl, s2, hq2⟩
      rw [show (0 : Int) + (i : Int) = (i : Int) from Int.zero_add _]
      have hS2 := s2.seq hS
      refine ⟨fun σ' H' => H' = H2 ∧ σ' = [some (.ref a), some (.int at_), some (.int (n : Nat)), some (.ref q), some (.int (i : Nat)), some (.int (if 0 < xs.length then (xs[((at_ + 5 * (i : Int)) % (xs.length : Int)).toNat]?).getD 0 else 0))], ⟨_, rfl, a, _, rfl, .inl hS2, _, _, rfl, rfl, _, rfl, ?_⟩, ?_⟩
      · rw [List.length_map]
        by_cases h0 : 0 < xs.length
        · rw [decide_eq_true (show (xs.length : Int) > 0 by omega), if_pos h0]
          refine iteT ⟨_, rfl, _, rfl, _, rfl, _, _, rfl, rfl, .inr ⟨by omega, by omega⟩, _, _, rfl, rfl, _, rfl, a, _, rfl, .inl hS2, _, _, rfl, rfl, ?_, a, _, _, .int ((xs[((at_ + 5 * (i : Int)) % (xs.length : Int)).toNat]?).getD 0), rfl, rfl, hS2, ?_, rfl, rfl⟩
          · rw [List.length_map]
            omega
          · rw [List.length_map, Int.fmod_eq_emod_of_nonneg _ (by omega)]
            have hp : (0 : Int) < (xs.length : Int) := by omega
            have h1 := Int.emod_nonneg (at_ + 5 * (i : Int)) (show (xs.length : Int) ≠ 0 by omega)
            have h2 := Int.emod_lt_of_pos (at_ + 5 * (i : Int)) hp
            generalize (at_ + 5 * (i : Int)) % (xs.length : Int) = z at h1 h2
            obtain ⟨j, rfl⟩ := Int.eq_ofNat_of_zero_le h1
            have hj : j < xs.length := by omega
            refine atI_nat ?_
            rw [List.getElem?_map, Int.toNat_natCast, List.getElem?_eq_getElem hj]
            rfl
        · rw [decide_eq_false (show ¬ (xs.length : Int) > 0 by omega), if_neg h0]
          exact iteF ⟨rfl, rfl⟩
      rintro σ' H3 ⟨rfl, rfl⟩
      have hm3 : (0 : Int) ≤ (i : Int) % 3 ∧ (i : Int) % 3 < 3 := by omega
      refine ⟨_, rfl, .inl ⟨rfl, _, .inl (.inl hq2)⟩, _, rfl, _, rfl, _, _, rfl, rfl, (show (0 : Int) < 3 by decide), _, _, rfl, rfl, _, _, rfl, rfl, ⟨by omega, by omega⟩, ?_⟩
      refine ⟨_, rfl, _, _, rfl, rfl, .inl ⟨by decide, by decide⟩, _, rfl, _, _, rfl, rfl, .inr ⟨by omega, by omega⟩, _, _, rfl, rfl, _, rfl, _, _, rfl, rfl, .inl ⟨by decide, by decide⟩, _, _, rfl, rfl, _, rfl, fun H4 s4 => ?_⟩
      have hq4 := s4 _ _ hq2
      refine ⟨q, _, _, rfl, rfl, hq4, ?_, ?_⟩
      · rw [List.length_map]
        unfold someL
        rw [List.length_map, List.length_range]
        exact Nat.lt_of_le_of_lt (show i ≤ 1000 by omega) (by rw [sizeLine_eq]; decide)
      · refine ⟨_, _, rfl, fun z o hz => ?_, ?_⟩
        · rw [upd_ne (ne_of_none hz hq)]
          exact s4 _ _ (s2 z o hz)
        · rw [upd_same]
          have e : someL xs at_ (i + 1) = someL xs at_ i ++ [someAt xs at_ i] := by
            unfold someL
            rw [List.range_succ, List.map_append]
            rfl
          rw [e, List.map_append]
          unfold someAt
          rw [← Int.fdiv_eq_ediv_of_nonneg _ (show (0 : Int) ≤ 1 + (i : Int) % 3 by omega)]
          rfl
    · rintro σ H2 ⟨v1, v2, rfl, s2, hq2⟩
      exact ⟨_, rfl, k q H2 hq s2 hq2⟩
def plantedL (xs : List Int) (c n : Int) : List Int := if c % 2 = 1 then (let ys := xs.set (c / 2 % (xs.length : Int)).toNat n; if c / 2 % 3 = 0 then ys.set (c * 48271 % 2147483647 % (xs.length : Int)).toNat n else ys) else xs
def spPlanted (K : PySem.W.Frag) : Sp := fun vs H Q _ => ∃ (a : Addr) (xs : List Int) (c n : Int), vs = [.ref a, .int c, .int n] ∧ SqL K H a (xs.map V.int) ∧ 0 < xs.length ∧ ∀ q H', H q = none → Same H H' → H' q = some (.lst ((plantedL xs c n).map V.int)) → Q (.ref q) H'
theorem sc_law_planted : FnScope ["_law_row", "_law_cell", "_law_number", "_law_out"] ["_law_row", "_law_cell", "_law_number"] (defScope s_law_planted) := ⟨rfl, rfl, rfl, by decide +kernel, rfl, by decide +kernel, by decide +kernel⟩
theorem bi_law_planted {K : PySem.W.Frag} {f : Addr} {fd : FuncData} (F : FunD K "_law_planted" "_law_planted" (defArgs s_law_planted) (defBody s_law_planted) (defScope s_law_planted) [] [] f fd) : Binds K fd ["_law_row", "_law_cell", "_law_number"] [] := F.bindsN fun _ _ _ _ _ _ us hl => match us, hl with | [_, _, _], _ => rfl
theorem ok_law_planted (T : Tx K mg) : Gd P w K mg base CX0 1 (He.fAd K ("_law_planted", none)) ["_law_row", "_law_cell", "_law_number"] [] (spPlanted K) := by
  refine gd_mk T.d_law_planted sc_law_planted (fun F => bn (bi_law_planted F)) (fun vs H Q E h => ?_) (fun cdv A outer s H vs Q E hr h => ?_)
  · obtain ⟨_, _, _, _, rfl, _⟩ := h
    rfl
  · obtain ⟨a, xs, c, n, rfl, hS, h0, k⟩ := h
    refine ⟨_, (pss_cons (ps_set (i := 3) sc_law_planted.nd rfl (Or.inl rfl) (pe_callTy call_list_of (by rfl) T.b_list (by decide +kernel) (pa_cons (pv 0) pa_nil)))
  (pss_cons (ps_if (pt_cmpR op_eq (pe_op op_mod (pv 1) pe_int) pe_int (nomark _))
  (pss_cons (ps_asg (pv 2) (pg_sub (pv 3) (pe_op op_modN (pe_op op_fdiv (pv 1) pe_int) (pe_callB call_len_seq (by rfl) T.b_len boot_len (pa_cons (pv 0) pa_nil))) set_list))
  (pss_one (ps_if (pt_cmpR op_eq (pe_op op_mod (pe_op op_fdiv (pv 1) pe_int) pe_int) pe_int (nomark _))
  (pss_one (ps_asg (pv 2) (pg_sub (pv 3) (pe_op op_modN (pe_op op_mod (pe_op op_mul (pv 1) pe_int) pe_int) (pe_callB call_len_seq (by rfl) T.b_len boot_len (pa_cons (pv 0) pa_nil))) set_list)))
  pss_nil)))
  pss_nil)
  (pss_one (ps_ret (pv 3))))), ?_⟩
    unfold plantedL at k
    refine ⟨_, rfl, a, _, rfl, .inl hS, fun q hq => ?_⟩
    have d2 : CDiv c 2 := ⟨by decide, by decide⟩
    have hS1 := (same_new (o := .lst (xs.map V.int)) hq).seq hS
    have ln : (((xs.map V.int).length : Nat) : Int) = (xs.length : Int) := by rw [List.length_map]
    have hp : (0 : Int) < (xs.length : Int) := by omega
    have ix : ∀ z : Int, ixN (xs.map V.int).length (z.fmod (((xs.map V.int).length : Nat) : Int)) = some (z % (xs.length : Int)).toNat := fun z => by
      rw [ln, Int.fmod_eq_emod_of_nonneg _ (by omega)]
      have h1 := Int.emod_nonneg z (show (xs.length : Int) ≠ 0 by omega)
      have h2 := Int.emod_lt_of_pos z hp
      generalize z % (xs.length : Int) = y at h1 h2
      obtain ⟨j, rfl⟩ := Int.eq_ofNat_of_zero_le h1
      rw [Int.toNat_natCast]
      exact ixN_nat (by rw [List.length_map]; omega)
    refine ⟨_, rfl, _, _, rfl, rfl, (show (0 : Int) < 2 by decide), rfl, _, rfl, ?_⟩
    by_cases e1 : c % 2 = 1
    rotate_left
    · rw [if_neg e1] at k
      rw [decide_eq_false (show ¬ V.int (c % 2) = V.int 1 from fun z => e1 (V.int.inj z))]
      exact iteF ⟨_, rfl, k q _ hq (same_new hq) upd_same⟩
    rw [if_pos e1] at k
    rw [decide_eq_true (show V.int (c % 2) = V.int 1 by rw [e1])]
    have hn0 : (((xs.map V.int).length : Nat) : Int) ≠ 0 := by omega
    refine iteT ⟨_, rfl, _, rfl, _, rfl, _, _, rfl, rfl, d2, _, rfl, a, _, rfl, .inl hS1, _, _, rfl, rfl, hn0, q, xs.map V.int, _, _, rfl, rfl, upd_same, ix _, ?_⟩
    rw [upd_upd]
    have es : ∀ (l : List Int) (j : Nat), (l.map V.int).set j (.int n) = (l.set j n).map V.int := fun l j => by rw [List.map_set]
    rw [es]
    generalize hy : xs.set (c / 2 % (xs.length : Int)).toNat n = ys at k ⊢
    have hyl : ys.length = xs.length := by rw [← hy, List.length_set]
    have hS2 := (same_new (o := .lst (ys.map V.int)) hq).seq hS
    refine ⟨_, rfl, _, _, rfl, rfl, d2, _, _, rfl, rfl, (show (0 : Int) < 3 by decide), rfl, _, rfl, ?_⟩
    by_cases e2 : c / 2 % 3 = 0
    rotate_left
    · rw [decide_eq_false (show ¬ V.int (c / 2 % 3) = V.int 0 from fun z => e2 (V.int.inj z))]
      rw [if_neg e2] at k
      exact iteF ⟨_, rfl, k q _ hq (same_new hq) upd_same⟩
    rw [decide_eq_true (show V.int (c / 2 % 3) = V.int 0 by rw [e2])]
    rw [if_pos e2] at k
    have ix2 : ∀ z : Int, ixN (ys.map V.int).length (z.fmod (((xs.map V.int).length : Nat) : Int)) = some (z % (xs.length : Int)).toNat := fun z => by
      rw [show (ys.map V.int).length = (xs.map V.int).length by rw [List.length_map, List.length_map, hyl]]
      exact ix z
    refine iteT ⟨_, rfl, _, rfl, _, rfl, _, _, rfl, rfl, .inr ⟨by decide, by decide⟩, _, _, rfl, rfl, (show (0 : Int) < 2147483647 by decide), _, rfl, a, _, rfl, .inl hS2, _, _, rfl, rfl, hn0, q, ys.map V.int, _, _, rfl, rfl, upd_same, ix2 _, ?_⟩
    rw [upd_upd, es]
    exact ⟨_, rfl, k q _ hq (same_new hq) upd_same⟩
end
end Rb
set_option Elab.async false
set_option linter.all false
set_option maxRecDepth 100000
set_option maxHeartbeats 4000000
/-! the law's own play -/
namespace Rb
open PySem PySem.Spec PyProof.Rows L2
def beyond (r2 r3 : List Int) (e : Nat) : Bool := !(decide (0 ≤ (r2[e]?).getD 0) && decide ((r2[e]?).getD 0 < (r3.length : Int)))
def lawE (r1 r2 r3 : List Int) (n : Int) (turned : Bool) (e : Nat) : Except Str Int :=
  if (r1[e]?).getD 0 = 0 ∧ (turned = true ∨ beyond r2 r3 e = false) then .error "nought" else if beyond r2 r3 e = true then .error "outside" else .ok (kp ((r3[((r2[e]?).getD 0).toNat]?).getD 0 + kp (n.fdiv ((r1[e]?).getD 0))))
def PlayOut (F : Nat → Except Str Int) (c : Nat) (r0 os : List Int) (rv : V) (H : Hp) : Prop :=
  ∃ n, n ≤ c ∧ os.length = r0.length ∧ (∀ e, e < n → ∃ v, F e = .ok v ∧ os[e]? = some v) ∧ (∀ j, n ≤ j → os[j]? = r0[j]?) ∧
    ((n = c ∧ rv = .non) ∨ (n < c ∧ ∃ f r, F n = .error f ∧ rv = .ref r ∧ H r = some (.tup [.int 0, .int (n : Nat), .str f])))
def spPlay (K : PySem.W.Frag) : Sp := fun vs H Q _ => ∃ (a a0 a1 a2 a3 : Addr) (r0 r1 r2 r3 : List Int) (n : Int) (turned : Bool) (c : Nat), vs = [.ref a, .int n, .bl turned] ∧ H a = some (.lst [.ref a0, .ref a1, .ref a2, .ref a3]) ∧
  H a0 = some (.lst (r0.map V.int)) ∧ H a1 = some (.lst (r1.map V.int)) ∧ H a2 = some (.lst (r2.map V.int)) ∧ H a3 = some (.lst (r3.map V.int)) ∧ r0.length = c ∧ r1.length = c ∧ r2.length = c ∧ c ≤ 1000 ∧ (∀ x ∈ r1, -(2 ^ 63) ≤ x ∧ x < 2 ^ 63) ∧
  ∀ p q os rv H', Same H H' → H q = none → H' p = some (.tup [.ref q, rv]) → H' q = some (.lst (os.map V.int)) → PlayOut (lawE r1 r2 r3 n turned) c r0 os rv H' → Q (.ref p) H'
theorem at_getD {xs : List Int} {i : Nat} (h : i < xs.length) : (xs.map V.int)[i]? = some (.int ((xs[i]?).getD 0)) := by
  rw [List.getElem?_map, List.getElem?_eq_getElem h]
  rfl
section
variable {P : Program} {w : World} {K : PySem.W.Frag} {mg : Str → Option Value} {base : Heap}
theorem sc_law_play : FnScope ["_law_rows", "_law_number", "_law_turned", "_law_out", "_law_place", "_law_beyond", "_law_quotient"] ["_law_rows", "_law_number", "_law_turned"] (defScope s_law_play) := ⟨rfl, rfl, rfl, by decide +kernel, rfl, by decide +kernel, by decide +kernel⟩
theorem bi_law_play {K : PySem.W.Frag} {f : Addr} {fd : FuncData} (F : FunD K "_law_play" "_law_play" (defArgs s_law_play) (defBody s_law_play) (defScope s_law_play) [] [] f fd) : Binds K fd ["_law_rows", "_law_number", "_law_turned"] [] := F.bindsN fun _ _ _ _ _ _ us hl => match us, hl with | [_, _, _], _ => rfl
theorem ok_law_play (T : Tx K mg) : Gd P w K mg base CX0 2 (He.fAd K ("_law_play", none)) ["_law_rows", "_law_number", "_law_turned"] [] (spPlay K) := by
  obtain ⟨fd_law_wrap, G_law_wrap, p_law_wrap, ds_law_wrap, v_law_wrap, b_law_wrap⟩ := ok_law_wrap (P := P) (w := w) (base := base) T
  refine gd_mk T.d_law_play sc_law_play (fun F => bn (bi_law_play F)) (fun vs H Q E h => ?_) (fun cdv A outer s H vs Q E hr h => ?_)
  · obtain ⟨_, _, _, _, _, _, _, _, _, _, _, _, rfl, _⟩ := h
    rfl
  · obtain ⟨a, a0, a1, a2, a3, r0, r1, r2, r3, n, turned, c, rfl, ha, h0, h1, h2, h3, l0, l1, l2, hc, hk, k⟩ := h
    refine ⟨_, (pss_cons (ps_set (i := 3) sc_law_play.nd rfl (Or.inl rfl) (pe_callTy call_list_of (by rfl) T.b_list (by decide +kernel) (pa_cons (pe_ix ix_list (pv 0) pe_int (fun _ _ => rfl)) pa_nil)))
  (pss_cons (ps_for PassesOwn.never rfl (pi_range1 rfl T.b_range (pa_cons (pe_callB call_len_seq (by rfl) T.b_len boot_len (pa_cons (pv 3) pa_nil)) pa_nil)) (pg_name (i := 4) sc_law_play.nd rfl (Or.inl rfl))
  (C8.pss_cut (ps_set (i := 5) sc_law_play.nd rfl (Or.inl rfl) (pe_not (pe_chain op_le op_lt pe_int (pe_ix ix_list (pe_ix ix_list (pv 0) pe_int (fun _ _ => rfl)) (pv 4) (fun _ _ => rfl)) (pe_callB call_len_seq (by rfl) T.b_len boot_len (pa_cons (pe_ix ix_list (pv 0) pe_int (fun _ _ => rfl)) pa_nil)))))
  (pss_cons (ps_if (PW.pt (pw_and (pt_cmpR op_eq (pe_ix ix_list (pe_ix ix_list (pv 0) pe_int (fun _ _ => rfl)) (pv 4) (fun _ _ => rfl)) pe_int (nomark _)) (pw_and1 (PW.pt (pw_or (pt_val (pv 2)) (pw_or1 (pt_not (pt_val (pv 5)))))))))
  (pss_one (ps_ret (pe_tup (pa_cons (pv 3) (pa_cons (pe_tup (pa_cons pe_int (pa_cons (pv 4) (pa_cons pe_str pa_nil)))) pa_nil)))))
  pss_nil)
  (pss_cons (ps_if (pt_val (pv 5))
  (pss_one (ps_ret (pe_tup (pa_cons (pv 3) (pa_cons (pe_tup (pa_cons pe_int (pa_cons (pv 4) (pa_cons pe_str pa_nil)))) pa_nil)))))
  pss_nil)
  (pss_cons (ps_set (i := 6) sc_law_play.nd rfl (Or.inl rfl) (pe_call G_law_wrap (hr.mono (by decide)) rfl T.g_law_wrap p_law_wrap b_law_wrap v_law_wrap pass0 (pa_cons (pe_op op_fdivZ (pv 1) (pe_ix ix_list (pe_ix ix_list (pv 0) pe_int (fun _ _ => rfl)) (pv 4) (fun _ _ => rfl))) pa_nil)))
  (pss_one (ps_asg (pe_call G_law_wrap (hr.mono (by decide)) rfl T.g_law_wrap p_law_wrap b_law_wrap v_law_wrap pass0 (pa_cons (pe_op op_add (pe_ix ix_list (pe_ix ix_list (pv 0) pe_int (fun _ _ => rfl)) (pe_ix ix_list (pe_ix ix_list (pv 0) pe_int (fun _ _ => rfl)) (pv 4) (fun _ _ => rfl)) (fun _ _ => rfl)) (pv 6)) pa_nil)) (pg_sub (pv 3) (pv 4) set_list))))))))
  (pss_one (ps_ret (pe_tup (pa_cons (pv 3) (pa_cons pe_non pa_nil))))))), ?_⟩
    refine ⟨_, rfl, a, _, _, _, rfl, rfl, seql ha, atI_nat (j := 0) rfl, a0, _, rfl, .inl (seql h0), fun q hq => ?_⟩
    have lq : (((r0.map V.int).length : Nat) : Int) = (c : Int) := by rw [List.length_map, l0]
    refine ⟨_, rfl, q, _, rfl, .inl (seql upd_same), ?_⟩
    rw [lq]
    refine ⟨_, rfl, by omega, by omega, for_range (lo := 0) (n := c) (fun i σ H2 => ∃ (v1 v2 v3 : Option V) (os : List Int), σ = [some (.ref a), some (.int n), some (.bl turned), some (.ref q), v1, v2, v3] ∧ Same H H2 ∧ H2 q = some (.lst (os.map V.int)) ∧ os.length = r0.length ∧
      (∀ e, e < i → ∃ v, lawE r1 r2 r3 n turned e = .ok v ∧ os[e]? = some v) ∧ (∀ j, i ≤ j → os[j]? = r0[j]?)) ?_ ?_ ?_⟩
    · exact ⟨_, _, _, r0, rfl, same_new hq, upd_same, rfl, fun e h => absurd h (Nat.not_lt_zero e), fun _ _ => rfl⟩
    · rintro i σ H2 hi ⟨v1, v2, v3, os, rfl, s2, hq2, hl, hv, hj⟩
      rw [show (0 : Int) + (i : Int) = (i : Int) from Int.zero_add _]
      have ha2 := s2 _ _ ha
      have h12 := s2 _ _ h1
      have h22 := s2 _ _ h2
      have h32 := s2 _ _ h3
      have g1 := at_getD (xs := r1) (i := i) (by omega)
      have g2 := at_getD (xs := r2) (i := i) (by omega)
      have fin_err : ∀ f, lawE r1 r2 r3 n turned i = .error f → ∀ r, H2 r = none → ∀ p, (upd H2 r (.tup [.int 0, .int (i : Nat), .str f])) p = none → Q (.ref p) (upd (upd H2 r (.tup [.int 0, .int (i : Nat), .str f])) p (.tup [.ref q, .ref r])) := fun f hf r hr p hp => by
        have s4 := (same_new (o := .tup [.int 0, .int (i : Nat), .str f]) hr).trans (same_new (o := .tup [.ref q, .ref r]) hp)
        exact k p q os (.ref r) _ (s2.trans s4) hq upd_same (s4 _ _ hq2) ⟨i, by omega, hl, hv, hj, .inr ⟨hi, f, r, hf, rfl, same_new hp _ _ upd_same⟩⟩
      refine ⟨fun σ' H' => H' = H2 ∧ σ' = [some (.ref a), some (.int n), some (.bl turned), some (.ref q), some (.int (i : Nat)), some (.bl (beyond r2 r3 i)), v3], ⟨_, rfl, a, _, _, .ref a2, rfl, rfl, seql ha2, atI_nat (j := 2) rfl, _, rfl, a2, _, _, _, rfl, rfl, seql h22, atI_nat (j := i) g2, _, _, rfl, rfl, _, rfl, ?_⟩, ?_⟩
      · by_cases c0 : 0 ≤ (r2[i]?).getD 0
        · rw [decide_eq_true c0]
          refine iteT ⟨_, rfl, a, _, _, .ref a3, rfl, rfl, seql ha2, atI_nat (j := 3) rfl, a3, _, rfl, .inl (seql h32), _, _, rfl, rfl, _, rfl, rfl, ?_⟩
          unfold beyond
          rw [decide_eq_true c0, List.length_map]
          rfl
        · rw [decide_eq_false c0]
          refine iteF ⟨_, rfl, rfl, ?_⟩
          unfold beyond
          rw [decide_eq_false c0]
          rfl
      rintro σ' H3 ⟨rfl, rfl⟩
      have lw : lawE r1 r2 r3 n turned i = (if (r1[i]?).getD 0 = 0 ∧ (turned = true ∨ beyond r2 r3 i = false) then .error "nought" else if beyond r2 r3 i = true then .error "outside" else .ok (kp ((r3[((r2[i]?).getD 0).toNat]?).getD 0 + kp (n.fdiv ((r1[i]?).getD 0))))) := rfl
      have hx : beyond r2 r3 i = false → ∃ j : Nat, (r2[i]?).getD 0 = j ∧ j < r3.length := fun hb => by
        unfold beyond at hb
        by_cases c0 : 0 ≤ (r2[i]?).getD 0
        · by_cases c1 : (r2[i]?).getD 0 < (r3.length : Int)
          · exact ⟨((r2[i]?).getD 0).toNat, by omega, by omega⟩
          · rw [decide_eq_true c0, decide_eq_false c1] at hb
            cases hb
        · rw [decide_eq_false c0] at hb
          cases hb
      refine ⟨_, rfl, a, _, _, .ref a1, rfl, rfl, seql ha2, atI_nat (j := 1) rfl, _, rfl, a1, _, _, _, rfl, rfl, seql h12, atI_nat (j := i) g1, rfl, _, rfl, ?_⟩
      generalize hbd : beyond r2 r3 i = bd at lw hx ⊢
      by_cases b0 : (r1[i]?).getD 0 = 0
      · rw [decide_eq_true (show V.int ((r1[i]?).getD 0) = V.int 0 by rw [b0])]
        refine iteT ⟨_, rfl, _, rfl, ?_⟩
        cases turned with
        | true =>
          rw [if_pos ⟨b0, .inl rfl⟩] at lw
          exact iteT (iteT ⟨_, rfl, _, rfl, (by show 3 ≤ sizeLine; decide), fun r hr => ⟨(by show 2 ≤ sizeLine; decide), fun p hp => fin_err _ lw r hr p hp⟩⟩)
        | false =>
          refine iteF ⟨_, rfl, _, rfl, ?_⟩
          cases bd with
          | false =>
            rw [if_pos ⟨b0, .inr rfl⟩] at lw
            exact iteT ⟨_, rfl, _, rfl, (by show 3 ≤ sizeLine; decide), fun r hr => ⟨(by show 2 ≤ sizeLine; decide), fun p hp => fin_err _ lw r hr p hp⟩⟩
          | true =>
            rw [if_neg (fun z => by rcases z.2 with z | z <;> cases z), if_pos rfl] at lw
            exact iteF ⟨_, rfl, _, rfl, iteT ⟨_, rfl, _, rfl, (by show 3 ≤ sizeLine; decide), fun r hr => ⟨(by show 2 ≤ sizeLine; decide), fun p hp => fin_err _ lw r hr p hp⟩⟩⟩
      · rw [decide_eq_false (show ¬ V.int ((r1[i]?).getD 0) = V.int 0 from fun z => b0 (V.int.inj z))]
        rw [if_neg (fun z => b0 z.1)] at lw
        refine iteF (iteF ⟨_, rfl, _, rfl, ?_⟩)
        cases bd with
        | true =>
          rw [if_pos rfl] at lw
          exact iteT ⟨_, rfl, _, rfl, (by show 3 ≤ sizeLine; decide), fun r hr => ⟨(by show 2 ≤ sizeLine; decide), fun p hp => fin_err _ lw r hr p hp⟩⟩
        | false =>
          rw [if_neg Bool.false_ne_true] at lw
          obtain ⟨j, ej, hjl⟩ := hx rfl
          have hb1 := hk _ (List.getElem_mem (show i < r1.length by omega))
          have hb2 : (r1[i]?).getD 0 = r1[i]'(by omega) := by
            rw [List.getElem?_eq_getElem (show i < r1.length by omega)]
            rfl
          rw [← hb2] at hb1
          refine iteF ⟨_, rfl, _, rfl, a, _, _, .ref a1, rfl, rfl, seql ha2, atI_nat (j := 1) rfl, _, rfl, a1, _, _, _, rfl, rfl, seql h12, atI_nat (j := i) g1, _, _, rfl, rfl, ⟨b0, log2_kept hb1.1 hb1.2⟩, _, rfl, ?_⟩
          have g3 := at_getD hjl
          refine ⟨_, rfl, a, _, _, .ref a3, rfl, rfl, seql ha2, atI_nat (j := 3) rfl, _, rfl, a, _, _, .ref a2, rfl, rfl, seql ha2, atI_nat (j := 2) rfl, _, rfl, a2, _, _, _, rfl, rfl, seql h22, atI_nat (j := i) g2, a3, _, _, _, rfl, rfl, seql h32, by rw [ej]; exact atI_nat (j := j) g3, _, rfl, _, _, rfl, rfl, _, rfl, ?_⟩
          refine ⟨_, rfl, _, rfl, q, os.map V.int, _, i, rfl, rfl, hq2, ixN_nat (by rw [List.length_map]; omega), ?_⟩
          rw [ej, Int.toNat_natCast] at lw
          have es : (os.map V.int).set i (.int (kp ((r3[j]?).getD 0 + kp (n.fdiv ((r1[i]?).getD 0))))) = (os.set i (kp ((r3[j]?).getD 0 + kp (n.fdiv ((r1[i]?).getD 0))))).map V.int := by rw [List.map_set]
          rw [es]
          refine ⟨_, _, _, _, rfl, fun z o hz => ?_, upd_same, by rw [List.length_set]; exact hl, fun e he => ?_, fun m hm => ?_⟩
          · rw [upd_ne (ne_of_none hz hq)]
            exact s2 z o hz
          · by_cases e1 : e = i
            · subst e1
              exact ⟨_, lw, List.getElem?_set_self (by omega)⟩
            · obtain ⟨v, hv1, hv2⟩ := hv e (by omega)
              exact ⟨v, hv1, by rw [List.getElem?_set_ne (fun z => e1 z.symm)]; exact hv2⟩
          · rw [List.getElem?_set_ne (show i ≠ m by omega)]
            exact hj m (by omega)
    · rintro σ H2 ⟨v1, v2, v3, os, rfl, s2, hq2, hl, hv, hj⟩
      refine ⟨_, rfl, (by show 2 ≤ sizeLine; decide), fun p hp => ?_⟩
      exact k p q os .non _ (s2.trans (same_new hp)) hq upd_same (same_new hp _ _ hq2) ⟨c, Nat.le_refl _, hl, hv, hj, .inl ⟨rfl, rfl⟩⟩
end
end Rb
set_option Elab.async false
set_option linter.all false
set_option maxRecDepth 100000
set_option maxHeartbeats 4000000
/-! the law's own verdict -/
namespace Rb
open PySem PySem.Spec PyProof.Rows L2
def spTold : Sp := fun vs H Q _ => ∃ (p c' t' cl : Addr) (rv rv2 : V) (os : List Int), vs = [.ref p, .ref cl, rv2] ∧ H p = some (.tup [.ref c', rv, .ref t']) ∧ H c' = some (.lst (os.map V.int)) ∧ H cl = some (.lst (os.map V.int)) ∧
  ((rv = .non ∧ rv2 = .non) ∨ ∃ r r2 n f, rv = .ref r ∧ rv2 = .ref r2 ∧ H r = some (.tup [.int 0, .int n, .str f]) ∧ H r2 = some (.tup [.int 0, .int n, .str f]) ∧ PyData.canLay0 (.str f) = true) ∧ Q (.bl true) H
theorem eqv_ints : ∀ l : List Int, PyData.eqvAll (l.map PyData.int) (l.map PyData.int) = true
  | [] => by simp only [List.map, PyData.eqvAll]
  | _ :: l => by simp only [List.map, PyData.eqvAll, PyData.eqv, eqv_ints l, beq_self_eq_true, Bool.and_self]
theorem shp3 {n : Int} {f : Str} (h : PyData.canLay0 (.str f) = true) : SeqAt.shaped (.tuple [.int 0, .int n, .str f]) = true := by
  unfold SeqAt.shaped
  have h' : PyData.canLay0 (.tuple [.int 0, .int n, .str f]) = true := by
    simp only [PyData.canLay0, PyData.canLayAll0, Bool.true_and, Bool.and_true] at h ⊢
    exact h
  rw [h']
  simp only [PyData.depth, PyData.depthAll, Bool.true_and]
  rfl
theorem eqv3 {n : Int} {f : Str} : PyData.eqv (.tuple [.int 0, .int n, .str f]) (.tuple [.int 0, .int n, .str f]) = true := by
  simp only [PyData.eqv, PyData.eqvAll, beq_self_eq_true, Bool.and_self]
section
variable {P : Program} {w : World} {K : PySem.W.Frag} {mg : Str → Option Value} {base : Heap}
theorem sc_law_told : FnScope ["_law_found", "_law_cells", "_law_refusal", "_law_number"] ["_law_found", "_law_cells", "_law_refusal"] (defScope s_law_told) := ⟨rfl, rfl, rfl, by decide +kernel, rfl, by decide +kernel, by decide +kernel⟩
theorem bi_law_told {K : PySem.W.Frag} {f : Addr} {fd : FuncData} (F : FunD K "_law_told" "_law_told" (defArgs s_law_told) (defBody s_law_told) (defScope s_law_told) [] [] f fd) : Binds K fd ["_law_found", "_law_cells", "_law_refusal"] [] := F.bindsN fun _ _ _ _ _ _ us hl => match us, hl with | [_, _, _], _ => rfl
theorem ok_law_told (T : Tx K mg) : Gd P w K mg base CX0 2 (He.fAd K ("_law_told", none)) ["_law_found", "_law_cells", "_law_refusal"] [] spTold := by
  obtain ⟨fd_law_whole, G_law_whole, p_law_whole, ds_law_whole, v_law_whole, b_law_whole⟩ := ok_law_whole (P := P) (w := w) (base := base) T
  refine gd_mk T.d_law_told sc_law_told (fun F => bn (bi_law_told F)) (fun vs H Q E h => ?_) (fun cdv A outer s H vs Q E hr h => ?_)
  · obtain ⟨_, _, _, _, _, _, _, rfl, _⟩ := h
    rfl
  · obtain ⟨p, c', t', cl, rv, rv2, os, rfl, hp, hc, hcl, hrv, k⟩ := h
    refine ⟨_, (pss_cons (ps_if (PW.pt (pw_or (pt_not (pt_val (pe_callB call_isi (by rfl) T.b_isinstance (by decide +kernel) (pa_cons (pv 0) (pa_cons (pe_bltn (v := .ty "tuple") (u := .type "tuple") (by rfl) T.b_tuple (by decide +kernel) rfl) pa_nil))))) (pw_or (pt_cmpR op_ne (pe_callB call_len_seq (by rfl) T.b_len boot_len (pa_cons (pv 0) pa_nil)) pe_int (nomark _)) (pw_or1 (pt_not (pt_val (pe_callB call_isi (by rfl) T.b_isinstance (by decide +kernel) (pa_cons (pe_ix ix_tup (pv 0) pe_int (fun _ _ => rfl)) (pa_cons (pe_bltn (v := .ty "list") (u := .type "list") (by rfl) T.b_list (by decide +kernel) rfl) pa_nil)))))))))
  (pss_one ps_never)
  pss_nil)
  (pss_cons (ps_for PassesOwn.never rfl (pi_list (pe_ix ix_tup (pv 0) pe_int (fun _ _ => rfl))) (pg_name (i := 3) sc_law_told.nd rfl (Or.inl rfl))
  (pss_one (ps_if (pt_not (pt_val (pe_call G_law_whole (hr.mono (by decide)) rfl T.g_law_whole p_law_whole b_law_whole v_law_whole pass0 (pa_cons (pv 3) pa_nil))))
  (pss_one ps_never)
  pss_nil)))
  (pss_cons (ps_if (pt_cmpR (op_neD hr.units) (pe_ix ix_tup (pv 0) pe_int (fun _ _ => rfl)) (pv 1) (nomark _))
  (pss_one ps_never)
  pss_nil)
  (pss_cons (ps_if (pt_cmpR op_isN (pv 2) pe_non (nomark _))
  (pss_one (ps_ret (pe_cmpR op_isN (pe_ix ix_tup (pv 0) pe_int (fun _ _ => rfl)) pe_non (nomark _))))
  pss_nil)
  (pss_cons (ps_if (PW.pt (pw_or (pt_not (pt_val (pe_callB call_isi (by rfl) T.b_isinstance (by decide +kernel) (pa_cons (pe_ix ix_tup (pv 0) pe_int (fun _ _ => rfl)) (pa_cons (pe_bltn (v := .ty "tuple") (u := .type "tuple") (by rfl) T.b_tuple (by decide +kernel) rfl) pa_nil))))) (pw_or (pt_cmpR op_ne (pe_callB call_len_seq (by rfl) T.b_len boot_len (pa_cons (pe_ix ix_tup (pv 0) pe_int (fun _ _ => rfl)) pa_nil)) pe_int (nomark _)) (pw_or1 (pt_not (pt_val (pe_callB call_isi (by rfl) T.b_isinstance (by decide +kernel) (pa_cons (pe_ix ix_tup (pe_ix ix_tup (pv 0) pe_int (fun _ _ => rfl)) pe_int (fun _ _ => rfl)) (pa_cons (pe_bltn (v := .ty "str") (u := .type "str") (by rfl) T.b_str (by decide +kernel) rfl) pa_nil)))))))))
  (pss_one ps_never)
  pss_nil)
  (pss_one (ps_ret (pe_and (pe_call G_law_whole (hr.mono (by decide)) rfl T.g_law_whole p_law_whole b_law_whole v_law_whole pass0 (pa_cons (pe_ix ix_tup (pe_ix ix_tup (pv 0) pe_int (fun _ _ => rfl)) pe_int (fun _ _ => rfl)) pa_nil)) (pe_and (pe_call G_law_whole (hr.mono (by decide)) rfl T.g_law_whole p_law_whole b_law_whole v_law_whole pass0 (pa_cons (pe_ix ix_tup (pe_ix ix_tup (pv 0) pe_int (fun _ _ => rfl)) pe_int (fun _ _ => rfl)) pa_nil)) (pe_one (pe_cmpR (op_eqD hr.units) (pe_ix ix_tup (pv 0) pe_int (fun _ _ => rfl)) (pv 2) (nomark _)))))))))))), ?_⟩
    refine ⟨_, rfl, _, _, _, _, true, rfl, .ty _, .base (.tup hp), kit_ty (by decide +kernel), _, rfl, iteF ?_⟩
    refine ⟨_, rfl, p, _, rfl, .inr (seqt hp), rfl, _, rfl, iteF ?_⟩
    refine ⟨_, rfl, p, _, _, .ref c', rfl, rfl, seqt hp, atI_nat (j := 0) rfl, _, _, _, _, true, rfl, .ty _, .base (.lst hc), kit_ty (by decide +kernel), _, rfl, iteF ?_⟩
    refine ⟨_, rfl, p, _, _, .ref c', rfl, rfl, seqt hp, atI_nat (j := 0) rfl, c', rfl, ⟨_, seql hc⟩, for_list (K := K) (a := c') (xs := os.map V.int) (fun i σ H2 => ∃ v1 : Option V, H2 = H ∧ σ = [some (.ref p), some (.ref cl), some rv2, v1]) ?_ ?_ ?_ ?_⟩
    · exact ⟨_, rfl, rfl⟩
    · rintro i σ H2 hi ⟨v1, rfl, rfl⟩
      exact seql hc
    · rintro i x σ H2 hx ⟨v1, rfl, rfl⟩
      rw [List.getElem?_map] at hx
      obtain ⟨y, _, rfl⟩ := Option.map_eq_some_iff.mp hx
      exact ⟨_, rfl, y, rfl, _, rfl, iteF ⟨_, rfl, rfl⟩⟩
    rintro σ H2 ⟨v1, rfl, rfl⟩
    refine ⟨_, rfl, p, _, _, .ref c', rfl, rfl, seqt hp, atI_nat (j := 0) rfl, _, rfl, _, _, .lst (seql hc) (dp_ints _), .lst (seql hcl) (dp_ints _), shp_ints _, shp_ints _, _, rfl, ?_⟩
    rw [show PyData.eqv (.list (os.map PyData.int)) (.list (os.map PyData.int)) = true by simp only [PyData.eqv, eqv_ints]]
    refine iteF ⟨_, rfl, rfl, _, rfl, ?_⟩
    rcases hrv with ⟨rfl, rfl⟩ | ⟨r, r2, n, f, rfl, rfl, h1, h2, h3⟩
    · refine iteT ⟨_, rfl, p, _, _, .non, rfl, rfl, seqt hp, atI_nat (j := 1) rfl, rfl, ?_⟩
      exact k
    · refine iteF ⟨_, rfl, p, _, _, .ref r, rfl, rfl, seqt hp, atI_nat (j := 1) rfl, _, _, _, _, true, rfl, .ty _, .base (.tup h1), kit_ty (by decide +kernel), _, rfl, iteF ?_⟩
      refine ⟨_, rfl, p, _, _, .ref r, rfl, rfl, seqt hp, atI_nat (j := 1) rfl, r, _, rfl, .inr (seqt h1), rfl, _, rfl, iteF ?_⟩
      refine ⟨_, rfl, p, _, _, .ref r, rfl, rfl, seqt hp, atI_nat (j := 1) rfl, r, _, _, .str f, rfl, rfl, seqt h1, atI_nat (j := 2) rfl, _, _, _, _, true, rfl, .ty _, .base (.str f), kit_ty (by decide +kernel), _, rfl, iteF ?_⟩
      refine ⟨_, rfl, p, _, _, .ref r, rfl, rfl, seqt hp, atI_nat (j := 1) rfl, r, _, _, .int 0, rfl, rfl, seqt h1, atI_nat (j := 0) rfl, _, rfl, _, rfl, iteT ?_⟩
      refine ⟨_, rfl, p, _, _, .ref r, rfl, rfl, seqt hp, atI_nat (j := 1) rfl, r, _, _, .int n, rfl, rfl, seqt h1, atI_nat (j := 1) rfl, _, rfl, _, rfl, iteT ?_⟩
      have d : ∀ z, H2 z = some (.tup [.int 0, .int n, .str f]) → Dp K H2 (.ref z) (.tuple [.int 0, .int n, .str f]) := fun z hz => .tup (seqt hz) (.cons (.int 0) (.cons (.int n) (.cons (.str f) .nil)))
      refine ⟨_, rfl, p, _, _, .ref r, rfl, rfl, seqt hp, atI_nat (j := 1) rfl, _, rfl, _, _, d r h1, d r2 h2, shp3 h3, shp3 h3, ?_⟩
      rw [eqv3]
      exact k
end
end Rb
set_option Elab.async false
set_option linter.all false
set_option maxRecDepth 100000
set_option maxHeartbeats 4000000
/-! plain: the code of our programs -/
namespace Rb
open PySem PySem.Spec PyProof.Rows L2
def ldS (one : Bool) (p r : Nat) : Stp := if one = true then .spread p r else .load p r
def bodyT (one : Bool) (n : Int) : List Stp := [.number 0 n, ldS one 1 1, .op 0 "/" 0 1, ldS one 1 2, .gather 1 1 3, .op 0 "+" 0 1]
def bodyN (one : Bool) (n : Int) : List Stp := [ldS one 0 2, .gather 0 0 3, .number 1 n, ldS one 2 1, .op 1 "/" 1 2, .op 0 "+" 0 1]
def bodyS (one : Bool) (n : Int) : List Stp := [ldS one 0 2, .gather 0 0 3, .save 0, .number 0 n, ldS one 1 1, .op 0 "/" 0 1, .copy 1 0, .bring 0, .op 0 "+" 0 1]
def bodyOf (one turned : Bool) (size : Nat) (n : Int) : List Stp := if turned = true then bodyT one n else if size = 4 then bodyS one n else bodyN one n
def fmOf (turned : Bool) (n : Int) : Fm := if turned = true then .pair "+" (.pair "/" (.num n) (.cell 1)) (.at_ 3 (.cell 2)) else .pair "+" (.at_ 3 (.cell 2)) (.pair "/" (.num n) (.cell 1))
def Stp.sx : Stp → Sx
  | .number p n => ⟨"number", [.inl p, .inl n, .inl 0]⟩
  | .load p r => ⟨"load", [.inl p, .inl r, .inl 0]⟩
  | .spread p r => ⟨"spread", [.inl p, .inl r, .inl 0]⟩
  | .gather p q r => ⟨"gather", [.inl p, .inl q, .inl r, .inl 0]⟩
  | .op p s q r => ⟨"op", [.inl p, .inr s, .inl q, .inl r, .inl 0]⟩
  | .copy p q => ⟨"copy", [.inl p, .inl q, .inl 0]⟩
  | .bring p => ⟨"bring", [.inl p, .inl 0, .inl 0]⟩
  | .save p => ⟨"save", [.inl 0, .inl p, .inl 0]⟩
theorem Stp.sx_v (s : Stp) : s.sx.v = s.v := by cases s <;> rfl
def midOf (body : List Stp) : List Sx := body.map Stp.sx ++ [⟨"trim", []⟩, ⟨"store", [.inl 0, .inl 0, .inl 0]⟩, ⟨"stop", [.inl 0]⟩]
theorem code_sx (c g : Nat) (body : List Stp) : ((⟨"begin", [.inl c, .inl g]⟩ : Sx) :: (midOf body ++ [⟨"next", []⟩])).map Sx.v = codeV c g body := by
  unfold codeV midOf
  rw [List.map_cons, List.map_append, List.map_append, List.map_map]
  have e : body.map (Sx.v ∘ Stp.sx) = body.map Stp.v := List.map_congr_left fun s _ => s.sx_v
  rw [e, List.append_assoc]
  rfl
theorem firm_known (one : Bool) (n : Int) : (knownL (midOf (bodyT one n)) HS0).isSome = true ∧ (knownL (midOf (bodyN one n)) HS0).isSome = true ∧ (knownL (midOf (bodyS one n)) HS0).isSome = true := by
  cases one
  · refine ⟨?_, ?_, ?_⟩ <;> kernel_rfl
  · refine ⟨?_, ?_, ?_⟩ <;> kernel_rfl
theorem firm_live (one : Bool) (n : Int) : (liveL (midOf (bodyT one n)).reverse WS0).isSome = true ∧ (liveL (midOf (bodyN one n)).reverse WS0).isSome = true ∧ (liveL (midOf (bodyS one n)).reverse WS0).isSome = true := by
  cases one
  · refine ⟨?_, ?_, ?_⟩ <;> kernel_rfl
  · refine ⟨?_, ?_, ?_⟩ <;> kernel_rfl
theorem firm_words (one : Bool) (n : Int) : ((midOf (bodyT one n)).all fun s => decide (s.w ≠ "begin" ∧ s.w ≠ "next")) = true ∧ ((midOf (bodyN one n)).all fun s => decide (s.w ≠ "begin" ∧ s.w ≠ "next")) = true ∧ ((midOf (bodyS one n)).all fun s => decide (s.w ≠ "begin" ∧ s.w ≠ "next")) = true := by
  cases one
  · refine ⟨?_, ?_, ?_⟩ <;> kernel_rfl
  · refine ⟨?_, ?_, ?_⟩ <;> kernel_rfl
theorem firm_of {c g : Nat} {body : List Stp} (h1 : (knownL (midOf body) HS0).isSome = true) (h2 : (liveL (midOf body).reverse WS0).isSome = true) (h3 : ((midOf body).all fun s => decide (s.w ≠ "begin" ∧ s.w ≠ "next")) = true) (h4 : body.length < 100) : Firm ⟨"begin", [.inl (c : Int), .inl (g : Int)]⟩ ⟨"next", []⟩ (midOf body) :=
  ⟨rfl, rfl, fun s hs => of_decide_eq_true (List.all_eq_true.mp h3 s hs), by unfold midOf; rw [List.length_append, List.length_map]; show body.length + 3 < 400; omega, Option.isSome_iff_exists.mp h1, Option.isSome_iff_exists.mp h2⟩
theorem firm_body (c g : Nat) (one turned : Bool) (size : Nat) (n : Int) : Firm ⟨"begin", [.inl (c : Int), .inl (g : Int)]⟩ ⟨"next", []⟩ (midOf (bodyOf one turned size n)) := by
  unfold bodyOf
  split
  · exact firm_of (firm_known one n).1 (firm_live one n).1 (firm_words one n).1 (by show 6 < 100; decide)
  · split
    · exact firm_of (firm_known one n).2.2 (firm_live one n).2.2 (firm_words one n).2.2 (by show 9 < 100; decide)
    · exact firm_of (firm_known one n).2.1 (firm_live one n).2.1 (firm_words one n).2.1 (by show 6 < 100; decide)
theorem ldS_v (one : Bool) (p r : Nat) : (ldS one p r).v = if one = true then [.str "spread", .int p, .int r, .int 0] else [.str "load", .int p, .int r, .int 0] := by cases one <;> rfl
theorem code_eq (c : Nat) (z : Int) (turned : Bool) (size : Nat) (n : Int) (hs : size = 1 ∨ size = 2 ∨ size = 4) : codeOf [(c : Int), c, c, z] (fmOf turned n) size = codeV c size (bodyOf (decide (c = 1)) turned size n) := by
  by_cases h : c = 1
  · subst h
    rcases hs with rfl | rfl | rfl <;> cases turned <;> rfl
  · have e : ((c : Int) = 1) = False := by
      apply propext
      constructor
      · intro q
        exact h (by omega)
      · intro q
        cases q
    rcases hs with rfl | rfl | rfl <;> cases turned <;> simp [codeOf, fmOf, layF, Fm.need, codeV, bodyOf, bodyT, bodyN, bodyS, ldS, h, e, Stp.v]
theorem size_fm (turned : Bool) (n : Int) (g : Nat) : sizeOf' (fmOf turned n) g = if g = 0 then (if turned = true then 4 else 2) else g := by
  unfold sizeOf'
  cases turned <;> rfl
theorem depth_fm (turned : Bool) (n : Int) : (fmOf turned n).depth < 4 := by cases turned <;> exact (show 2 < 4 by decide)
theorem rows_fm (turned : Bool) (n : Int) : (fmOf turned n).rows 4 := by
  cases turned
  · exact ⟨(show 2 < 4 by decide), trivial, (show 1 < 4 by decide)⟩
  · exact ⟨⟨trivial, (show 1 < 4 by decide)⟩, (show 2 < 4 by decide)⟩
end Rb
set_option Elab.async false
set_option linter.all false
set_option maxRecDepth 100000
set_option maxHeartbeats 4000000
/-! plain: what the code of our programs computes -/
namespace Rb
open PySem PySem.Spec PyProof.Rows L2
theorem get_put (v : Env) (p q : Nat) (n : Int) : (v.put p n).get q = if q = p then n else v.get q := by
  unfold Env.put Env.get
  dsimp only
  split <;> rfl
theorem slot_put (v : Env) (p : Nat) (n : Int) : (v.put p n).slot = v.slot := rfl
theorem stE_ok {D : Data} {st : Stp} {E : Nat → Except Str Env} {e : Nat} {v : Env} (h : E e = .ok v) : stepE D st E e = laneStep D e st v := by
  unfold stepE
  rw [h]
theorem stE_err {D : Data} {st : Stp} {E : Nat → Except Str Env} {e : Nat} {f : Str} (h : E e = .error f) : stepE D st E e = .error f := by
  unfold stepE
  rw [h]
def runV (D : Data) (e : Nat) : List Stp → Except Str Env → Except Str Env
  | [], r => r
  | st :: l, .ok v => runV D e l (laneStep D e st v)
  | _ :: _, .error f => .error f
theorem runV_err (D : Data) (e : Nat) (f : Str) : ∀ l, runV D e l (.error f) = .error f
  | [] => rfl
  | _ :: _ => rfl
theorem runE_runV (D : Data) (e : Nat) : ∀ (l : List Stp) (E : Nat → Except Str Env), (l.foldl (fun E st => stepE D st E) E) e = runV D e l (E e)
  | [], _ => rfl
  | st :: l, E => by
    rw [List.foldl_cons, runE_runV D e l]
    cases h : E e with
    | ok v => rw [stE_ok h]; rfl
    | error f => rw [stE_err h, runV_err]; rfl
theorem runE_eq (D : Data) (e : Nat) (l : List Stp) : runE D l e = runV D e l (.ok env0) := runE_runV D e l _
/-- what a lane's rows hold -/
structure LaneR (D : Data) (e : Nat) (one : Bool) (b x z : Int) (g : Int → Int) : Prop where
  l1 : ∀ v p, laneStep D e (ldS one p 1) v = .ok (v.put p b)
  l2 : ∀ v p, laneStep D e (ldS one p 2) v = .ok (v.put p x)
  l3 : ∀ v p q, laneStep D e (.gather p q 3) v = if 0 ≤ v.get q ∧ v.get q < z then .ok (v.put p (g (v.get q))) else .error "outside"
def outE (b x z n : Int) (turned : Bool) (g : Int → Int) : Except Str Int := if b = 0 ∧ (turned = true ∨ (0 ≤ x ∧ x < z)) then .error "nought" else if ¬ (0 ≤ x ∧ x < z) then .error "outside" else .ok (kp (g x + kp (n.fdiv b)))
def valV' (r : Except Str Env) : Except Str Int := match r with
  | .ok v => .ok (v.get 0)
  | .error f => .error f
theorem lane_op (D : Data) (e : Nat) (p q r : Nat) (s : Str) (v : Env) : laneStep D e (.op p s q r) v = (match doneE s (v.get q) (v.get r) with
    | .ok n => .ok (v.put p n)
    | .error f => .error f) := rfl
theorem doneE_add (l r : Int) : doneE "+" l r = .ok (kp (l + r)) := rfl
theorem doneE_div (l r : Int) : doneE "/" l r = if r = 0 then .error "nought" else .ok (kp (l.fdiv r)) := rfl
theorem val_T {D : Data} {e : Nat} {one : Bool} {b x z n : Int} {g : Int → Int} (R : LaneR D e one b x z g) : valV' (runV D e (bodyT one n) (.ok env0)) = outE b x z n true g := by
  unfold bodyT outE
  simp only [runV, show ∀ v, laneStep D e (.number 0 n) v = .ok (v.put 0 n) from fun _ => rfl, R.l1, lane_op, doneE_div, get_put]
  by_cases hb : b = 0
  · simp [hb, runV_err, valV']
  · by_cases hx : 0 ≤ x ∧ x < z
    · simp [hb, hx, runV, R.l2, R.l3, lane_op, doneE_add, get_put, valV', Int.add_comm]
    · simp [hb, hx, runV, R.l2, R.l3, lane_op, doneE_add, get_put, valV', runV_err]
theorem val_N {D : Data} {e : Nat} {one : Bool} {b x z n : Int} {g : Int → Int} (R : LaneR D e one b x z g) : valV' (runV D e (bodyN one n) (.ok env0)) = outE b x z n false g := by
  unfold bodyN outE
  simp only [runV, show ∀ v, laneStep D e (.number 1 n) v = .ok (v.put 1 n) from fun _ => rfl, R.l2, R.l3, lane_op, doneE_div, get_put]
  by_cases hx : 0 ≤ x ∧ x < z
  · by_cases hb : b = 0
    · simp [hb, hx, runV, R.l1, show ∀ v, laneStep D e (.number 1 n) v = .ok (v.put 1 n) from fun _ => rfl, lane_op, doneE_div, get_put, valV', runV_err]
    · simp [hb, hx, runV, R.l1, show ∀ v, laneStep D e (.number 1 n) v = .ok (v.put 1 n) from fun _ => rfl, lane_op, doneE_div, doneE_add, get_put, valV']
  · simp [hx, runV_err, valV']
theorem val_S {D : Data} {e : Nat} {one : Bool} {b x z n : Int} {g : Int → Int} (R : LaneR D e one b x z g) : valV' (runV D e (bodyS one n) (.ok env0)) = outE b x z n false g := by
  unfold bodyS outE
  have h0 : ∀ v, laneStep D e (.number 0 n) v = .ok (v.put 0 n) := fun _ => rfl
  have h1 : ∀ v, laneStep D e (.save 0) v = .ok { v with slot := some (v.get 0) } := fun _ => rfl
  have h2 : ∀ v, laneStep D e (.copy 1 0) v = .ok (v.put 1 (v.get 0)) := fun _ => rfl
  have h3 : ∀ v, laneStep D e (.bring 0) v = .ok (v.put 0 (v.slot.getD 0)) := fun _ => rfl
  have h4 : ∀ (v : Env) (o : Option Int) (q : Nat), ({ v with slot := o } : Env).get q = v.get q := fun _ _ _ => rfl
  simp only [runV, R.l2, R.l3, get_put]
  by_cases hx : 0 ≤ x ∧ x < z
  · by_cases hb : b = 0
    · simp [hb, hx, runV, R.l1, h0, h1, h2, h3, h4, lane_op, doneE_div, get_put, slot_put, valV', runV_err]
    · simp [hb, hx, runV, R.l1, h0, h1, h2, h3, h4, lane_op, doneE_div, doneE_add, get_put, slot_put, valV']
  · simp [hx, runV_err, valV']
end Rb
set_option Elab.async false
set_option linter.all false
set_option maxRecDepth 100000
set_option maxHeartbeats 4000000
/-! plain: the code of our programs meets what the machine asks -/
namespace Rb
open PySem PySem.Spec PyProof.Rows L2
def okV (D : Data) (e : Nat) : List Stp → Env → Prop
  | [], v => ∃ a, v.seat 0 = some a
  | st :: l, v => StepOk D e v st ∧ ∀ v', laneStep D e st v = .ok v' → okV D e l v'
theorem okV_at {D : Data} {e : Nat} : ∀ {l : List Stp} {v0 : Env}, okV D e l v0 → ∀ (k : Nat) (st : Stp), l[k]? = some st → ∀ v, runV D e (l.take k) (.ok v0) = .ok v → StepOk D e v st
  | st0 :: l, v0, h, 0, st, hs, v, hv => by
    cases hs
    cases hv
    exact h.1
  | st0 :: l, v0, h, k + 1, st, hs, v, hv => by
    rw [List.take_succ_cons] at hv
    have hv' : runV D e (l.take k) (laneStep D e st0 v0) = .ok v := hv
    cases q : laneStep D e st0 v0 with
    | ok v1 =>
      rw [q] at hv'
      exact okV_at (h.2 v1 q) k st hs v hv'
    | error f =>
      rw [q, runV_err] at hv'
      cases hv'
theorem okV_fin {D : Data} {e : Nat} : ∀ {l : List Stp} {v0 : Env}, okV D e l v0 → ∀ v, runV D e l (.ok v0) = .ok v → ∃ a, v.seat 0 = some a
  | [], v0, h, v, hv => by
    cases hv
    exact h
  | st0 :: l, v0, h, v, hv => by
    have hv' : runV D e l (laneStep D e st0 v0) = .ok v := hv
    cases q : laneStep D e st0 v0 with
    | ok v1 =>
      rw [q] at hv'
      exact okV_fin (h.2 v1 q) v hv'
    | error f =>
      rw [q, runV_err] at hv'
      cases hv'
/-- what a lane may ask of the rows -/
structure LaneS (D : Data) (e : Nat) (one : Bool) : Prop where
  s1 : ∀ v p, StepOk D e v (ldS one p 1)
  s2 : ∀ v p, StepOk D e v (ldS one p 2)
  s3 : ∀ v p q a, v.seat q = some a → StepOk D e v (.gather p q 3)
theorem seat_put (v : Env) (p q : Nat) (n : Int) : (v.put p n).seat q = if q = p then some n else v.seat q := rfl
theorem ok_add {D : Data} {e p q r : Nat} {v : Env} {a b : Int} (h1 : v.seat q = some a) (h2 : v.seat r = some b) : StepOk D e v (.op p "+" q r) := ⟨⟨a, h1⟩, b, h2, .inl rfl⟩
theorem ok_div {D : Data} {e p q r : Nat} {v : Env} {a b : Int} (h1 : v.seat q = some a) (h2 : v.seat r = some b) (h3 : -(2 ^ 63) ≤ b ∧ b < 2 ^ 63) : StepOk D e v (.op p "/" q r) := ⟨⟨a, h1⟩, b, h2, .inr ⟨rfl, h3⟩⟩
theorem op_next {D : Data} {e p q r : Nat} {s : Str} {v v' : Env} (h : laneStep D e (.op p s q r) v = .ok v') : ∃ n, v' = v.put p n := by
  rw [lane_op] at h
  cases q : doneE s (v.get q) (v.get r) with
  | ok n =>
    rw [q] at h
    exact ⟨n, (Except.ok.inj h).symm⟩
  | error f =>
    rw [q] at h
    cases h
theorem ga_next {D : Data} {e : Nat} {one : Bool} {b x z : Int} {g : Int → Int} (R : LaneR D e one b x z g) {p q : Nat} {v v' : Env} (h : laneStep D e (.gather p q 3) v = .ok v') : ∃ n, v' = v.put p n := by
  rw [R.l3] at h
  split at h
  · exact ⟨_, (Except.ok.inj h).symm⟩
  · cases h
section
variable {D : Data} {e : Nat} {one : Bool} {b x z n : Int} {g : Int → Int}
theorem okV_T (R : LaneR D e one b x z g) (O : LaneS D e one) (hb : -(2 ^ 63) ≤ b ∧ b < 2 ^ 63) : okV D e (bodyT one n) env0 := by
  refine ⟨trivial, fun v1 h1 => ?_⟩
  cases h1
  refine ⟨O.s1 _ _, fun v2 h2 => ?_⟩
  rw [R.l1] at h2
  cases h2
  refine ⟨ok_div (a := n) (b := b) rfl rfl hb, fun v3 h3 => ?_⟩
  obtain ⟨m3, rfl⟩ := op_next h3
  refine ⟨O.s2 _ _, fun v4 h4 => ?_⟩
  rw [R.l2] at h4
  cases h4
  refine ⟨O.s3 _ _ _ x rfl, fun v5 h5 => ?_⟩
  obtain ⟨m5, rfl⟩ := ga_next R h5
  refine ⟨ok_add (a := m3) (b := m5) rfl rfl, fun v6 h6 => ?_⟩
  obtain ⟨m6, rfl⟩ := op_next h6
  exact ⟨m6, rfl⟩
theorem okV_N (R : LaneR D e one b x z g) (O : LaneS D e one) (hb : -(2 ^ 63) ≤ b ∧ b < 2 ^ 63) : okV D e (bodyN one n) env0 := by
  refine ⟨O.s2 _ _, fun v1 h1 => ?_⟩
  rw [R.l2] at h1
  cases h1
  refine ⟨O.s3 _ _ _ x rfl, fun v2 h2 => ?_⟩
  obtain ⟨m2, rfl⟩ := ga_next R h2
  refine ⟨trivial, fun v3 h3 => ?_⟩
  cases h3
  refine ⟨O.s1 _ _, fun v4 h4 => ?_⟩
  rw [R.l1] at h4
  cases h4
  refine ⟨ok_div (a := n) (b := b) rfl rfl hb, fun v5 h5 => ?_⟩
  obtain ⟨m5, rfl⟩ := op_next h5
  refine ⟨ok_add (a := m2) (b := m5) rfl rfl, fun v6 h6 => ?_⟩
  obtain ⟨m6, rfl⟩ := op_next h6
  exact ⟨m6, rfl⟩
theorem okV_S (R : LaneR D e one b x z g) (O : LaneS D e one) (hb : -(2 ^ 63) ≤ b ∧ b < 2 ^ 63) : okV D e (bodyS one n) env0 := by
  refine ⟨O.s2 _ _, fun v1 h1 => ?_⟩
  rw [R.l2] at h1
  cases h1
  refine ⟨O.s3 _ _ _ x rfl, fun v2 h2 => ?_⟩
  obtain ⟨m2, rfl⟩ := ga_next R h2
  refine ⟨⟨m2, rfl⟩, fun v3 h3 => ?_⟩
  cases h3
  refine ⟨trivial, fun v4 h4 => ?_⟩
  cases h4
  refine ⟨O.s1 _ _, fun v5 h5 => ?_⟩
  rw [R.l1] at h5
  cases h5
  refine ⟨ok_div (a := n) (b := b) rfl rfl hb, fun v6 h6 => ?_⟩
  obtain ⟨m6, rfl⟩ := op_next h6
  refine ⟨⟨m6, rfl⟩, fun v7 h7 => ?_⟩
  cases h7
  refine ⟨⟨_, rfl⟩, fun v8 h8 => ?_⟩
  cases h8
  refine ⟨ok_add rfl rfl, fun v9 h9 => ?_⟩
  obtain ⟨m9, rfl⟩ := op_next h9
  exact ⟨m9, rfl⟩
end
end Rb
set_option Elab.async false
set_option linter.all false
set_option maxRecDepth 100000
set_option maxHeartbeats 4000000
/-! plain: the rows of the law as the machine's cells -/
namespace Rb
open PySem PySem.Spec PyProof.Rows L2
def D0 (r0 r1 r2 r3 : List Int) (c : Nat) : Data := ⟨[(c : Int), c, c, (r3.length : Int)], r0 ++ r1 ++ r2 ++ r3, c⟩
section
variable {r0 r1 r2 r3 : List Int} {c : Nat}
theorem start1 : (D0 r0 r1 r2 r3 c).start 1 = (c : Int) := by simp [D0, Data.start]
theorem start2 : (D0 r0 r1 r2 r3 c).start 2 = ((c + c : Nat) : Int) := by simp [D0, Data.start]
theorem start3 : (D0 r0 r1 r2 r3 c).start 3 = ((c + c + c : Nat) : Int) := by
  simp [D0, Data.start]
  omega
theorem cells_len (l0 : r0.length = c) (l1 : r1.length = c) (l2 : r2.length = c) : (D0 r0 r1 r2 r3 c).cells.length = c + c + c + r3.length := by
  show (r0 ++ r1 ++ r2 ++ r3).length = _
  rw [List.length_append, List.length_append, List.length_append, l0, l1, l2]
theorem cell1 (l0 : r0.length = c) (l1 : r1.length = c) (l2 : r2.length = c) {e : Nat} (he : e < c) : (D0 r0 r1 r2 r3 c).cell (((c + e : Nat) : Int)) = (r1[e]?).getD 0 := by
  unfold Data.cell
  rw [Int.toNat_natCast]
  show ((r0 ++ r1 ++ r2 ++ r3)[c + e]?).getD 0 = _
  rw [List.getElem?_append_left (by rw [List.length_append, List.length_append]; omega), List.getElem?_append_left (by rw [List.length_append]; omega), List.getElem?_append_right (by omega), l0, Nat.add_sub_cancel_left]
theorem cell2 (l0 : r0.length = c) (l1 : r1.length = c) (l2 : r2.length = c) {e : Nat} (he : e < c) : (D0 r0 r1 r2 r3 c).cell (((c + c + e : Nat) : Int)) = (r2[e]?).getD 0 := by
  unfold Data.cell
  rw [Int.toNat_natCast]
  show ((r0 ++ r1 ++ r2 ++ r3)[c + c + e]?).getD 0 = _
  rw [List.getElem?_append_left (by rw [List.length_append, List.length_append]; omega), List.getElem?_append_right (by rw [List.length_append]; omega), List.length_append, l0, l1, Nat.add_sub_cancel_left]
theorem cell3 (l0 : r0.length = c) (l1 : r1.length = c) (l2 : r2.length = c) (e : Nat) : (D0 r0 r1 r2 r3 c).cell (((c + c + c + e : Nat) : Int)) = (r3[e]?).getD 0 := by
  unfold Data.cell
  rw [Int.toNat_natCast]
  show ((r0 ++ r1 ++ r2 ++ r3)[c + c + c + e]?).getD 0 = _
  rw [List.getElem?_append_right (by rw [List.length_append, List.length_append]; omega), List.length_append, List.length_append, l0, l1, l2, Nat.add_sub_cancel_left]
theorem one_zero {e : Nat} (he : e < c) (h : decide (c = 1) = true) : e = 0 := by
  have := of_decide_eq_true h
  omega
theorem laneR (l0 : r0.length = c) (l1 : r1.length = c) (l2 : r2.length = c) {e : Nat} (he : e < c) : LaneR (D0 r0 r1 r2 r3 c) e (decide (c = 1)) ((r1[e]?).getD 0) ((r2[e]?).getD 0) (r3.length : Int) (fun a => (r3[a.toNat]?).getD 0) := by
  refine ⟨fun v p => ?_, fun v p => ?_, fun v p q => ?_⟩
  · cases h : decide (c = 1) with
    | true =>
      obtain rfl := one_zero he h
      show (Except.ok (v.put p ((D0 r0 r1 r2 r3 c).cell ((D0 r0 r1 r2 r3 c).start 1 + 0))) : Except Str Env) = _
      rw [start1, Int.add_zero]
      rw [show (c : Int) = ((c + 0 : Nat) : Int) from rfl, cell1 l0 l1 l2 he]
    | false =>
      show (Except.ok (v.put p ((D0 r0 r1 r2 r3 c).cell ((D0 r0 r1 r2 r3 c).start 1 + (e : Int)))) : Except Str Env) = _
      rw [start1, ← Int.natCast_add, cell1 l0 l1 l2 he]
  · cases h : decide (c = 1) with
    | true =>
      obtain rfl := one_zero he h
      show (Except.ok (v.put p ((D0 r0 r1 r2 r3 c).cell ((D0 r0 r1 r2 r3 c).start 2 + 0))) : Except Str Env) = _
      rw [start2, Int.add_zero]
      rw [show (((c + c : Nat)) : Int) = ((c + c + 0 : Nat) : Int) from rfl, cell2 l0 l1 l2 he]
    | false =>
      show (Except.ok (v.put p ((D0 r0 r1 r2 r3 c).cell ((D0 r0 r1 r2 r3 c).start 2 + (e : Int)))) : Except Str Env) = _
      rw [start2, ← Int.natCast_add, cell2 l0 l1 l2 he]
  · show (match (if 0 ≤ v.get q ∧ v.get q < (r3.length : Int) then Except.ok ((D0 r0 r1 r2 r3 c).cell ((D0 r0 r1 r2 r3 c).start 3 + v.get q)) else Except.error "outside" : Except Str Int) with
      | .ok n => (Except.ok (v.put p n) : Except Str Env)
      | .error f => .error f) = _
    by_cases hx : 0 ≤ v.get q ∧ v.get q < (r3.length : Int)
    · rw [if_pos hx, if_pos hx]
      obtain ⟨j, hj⟩ := Int.eq_ofNat_of_zero_le hx.1
      show (Except.ok (v.put p ((D0 r0 r1 r2 r3 c).cell ((D0 r0 r1 r2 r3 c).start 3 + v.get q))) : Except Str Env) = _
      rw [start3, hj, ← Int.natCast_add, cell3 l0 l1 l2, Int.toNat_natCast]
    · rw [if_neg hx, if_neg hx]
theorem inR (l0 : r0.length = c) (l1 : r1.length = c) (l2 : r2.length = c) {j : Nat} (h1 : c ≤ j) (h2 : j < c + c + c + r3.length) : (D0 r0 r1 r2 r3 c).InR (j : Int) := ⟨j, rfl, h1, by rw [cells_len l0 l1 l2]; exact h2⟩
theorem laneS (l0 : r0.length = c) (l1 : r1.length = c) (l2 : r2.length = c) {e : Nat} (he : e < c) : LaneS (D0 r0 r1 r2 r3 c) e (decide (c = 1)) := by
  have e1 : (D0 r0 r1 r2 r3 c).start 1 + 0 = ((c + 0 : Nat) : Int) := by rw [start1]; rfl
  have e2 : (D0 r0 r1 r2 r3 c).start 2 + 0 = ((c + c + 0 : Nat) : Int) := by rw [start2]; rfl
  refine ⟨fun v p => ?_, fun v p => ?_, fun v p q a ha => ?_⟩
  · cases h : decide (c = 1) with
    | true => exact ⟨(show 1 ≤ 4 by decide), by rw [e1]; exact inR l0 l1 l2 (by omega) (by omega)⟩
    | false => exact ⟨(show 1 ≤ 4 by decide), by rw [start1, ← Int.natCast_add]; exact inR l0 l1 l2 (by omega) (by omega)⟩
  · cases h : decide (c = 1) with
    | true => exact ⟨(show 2 ≤ 4 by decide), by rw [e2]; exact inR l0 l1 l2 (by omega) (by omega)⟩
    | false => exact ⟨(show 2 ≤ 4 by decide), by rw [start2, ← Int.natCast_add]; exact inR l0 l1 l2 (by omega) (by omega)⟩
  · refine ⟨(show 3 < 4 by decide), a, ha, fun h0 h1 => ?_⟩
    have h1' : a < (r3.length : Int) := h1
    obtain ⟨j, rfl⟩ := Int.eq_ofNat_of_zero_le h0
    rw [start3, ← Int.natCast_add]
    exact inR l0 l1 l2 (by omega) (by omega)
theorem outE_law (n : Int) (turned : Bool) (e : Nat) : outE ((r1[e]?).getD 0) ((r2[e]?).getD 0) (r3.length : Int) n turned (fun a => (r3[a.toNat]?).getD 0) = lawE r1 r2 r3 n turned e := by
  unfold outE lawE beyond
  by_cases h0 : 0 ≤ (r2[e]?).getD 0
  · by_cases h1 : (r2[e]?).getD 0 < (r3.length : Int)
    · simp [h0, h1]
    · simp [h0, h1]
  · simp [h0]
theorem val_law (l0 : r0.length = c) (l1 : r1.length = c) (l2 : r2.length = c) (n : Int) (turned : Bool) (size : Nat) {e : Nat} (he : e < c) : val (D0 r0 r1 r2 r3 c) (bodyOf (decide (c = 1)) turned size n) e = lawE r1 r2 r3 n turned e := by
  have R := laneR (r3 := r3) l0 l1 l2 he
  have h1 : val (D0 r0 r1 r2 r3 c) (bodyOf (decide (c = 1)) turned size n) e = valV' (runV (D0 r0 r1 r2 r3 c) e (bodyOf (decide (c = 1)) turned size n) (.ok env0)) := by
    unfold val valV'
    rw [runE_eq]
    all_goals (generalize runV (D0 r0 r1 r2 r3 c) e (bodyOf (decide (c = 1)) turned size n) (.ok env0) = q; cases q <;> rfl)
  rw [h1, ← outE_law]
  unfold bodyOf
  cases turned with
  | true => exact val_T R
  | false =>
    by_cases hs : size = 4
    · rw [if_neg Bool.false_ne_true, if_pos hs]
      exact val_S R
    · rw [if_neg Bool.false_ne_true, if_neg hs]
      exact val_N R
theorem body_okV (l0 : r0.length = c) (l1 : r1.length = c) (l2 : r2.length = c) (hk : ∀ x ∈ r1, -(2 ^ 63) ≤ x ∧ x < 2 ^ 63) (n : Int) (turned : Bool) (size : Nat) {e : Nat} (he : e < c) : okV (D0 r0 r1 r2 r3 c) e (bodyOf (decide (c = 1)) turned size n) env0 := by
  have R := laneR (r3 := r3) l0 l1 l2 he
  have O := laneS (r3 := r3) l0 l1 l2 he
  have hb : -(2 ^ 63) ≤ (r1[e]?).getD 0 ∧ (r1[e]?).getD 0 < 2 ^ 63 := by
    rw [List.getElem?_eq_getElem (show e < r1.length by omega)]
    exact hk _ (List.getElem_mem _)
  unfold bodyOf
  cases turned with
  | true => exact okV_T R O hb
  | false =>
    by_cases hs : size = 4
    · rw [if_neg Bool.false_ne_true, if_pos hs]
      exact okV_S R O hb
    · rw [if_neg Bool.false_ne_true, if_neg hs]
      exact okV_N R O hb
/-- a check of each step, as a list -/
def laysB (g : Nat) (body : List Stp) : Bool := body.all fun st => match st with
  | .save p => decide ((p + 1) * g ≤ 8)
  | st => decide ((st.seat + 1) * g ≤ 8)
theorem lays_body (one turned : Bool) (n : Int) (g : Nat) (hg : g = 1 ∨ g = 2 ∨ g = 4) : laysB g (bodyOf one turned g n) = true := by
  rcases hg with rfl | rfl | rfl <;> cases one <;> cases turned <;> rfl
theorem spreads_body (one turned : Bool) (n : Int) (g : Nat) : ∀ st ∈ bodyOf one turned g n, ∀ p r, st = Stp.spread p r → (r = 1 ∨ r = 2) := by
  intro st hst p r e
  subst e
  unfold bodyOf bodyT bodyN bodyS ldS at hst
  cases one <;> cases turned <;> by_cases hg : g = 4 <;> simp [hg] at hst <;> omega
theorem body_ok (l0 : r0.length = c) (l1 : r1.length = c) (l2 : r2.length = c) (hk : ∀ x ∈ r1, -(2 ^ 63) ≤ x ∧ x < 2 ^ 63) (n : Int) (turned : Bool) (g : Nat) (hg : g = 1 ∨ g = 2 ∨ g = 4) (h1 : 1 ≤ c) (h64 : c ≤ 64) : BodyOk (D0 r0 r1 r2 r3 c) g (bodyOf (decide (c = 1)) turned g n) := by
  have la := lays_body (decide (c = 1)) turned n g hg
  have lt : (bodyOf (decide (c = 1)) turned g n).length ≤ 20 := by
    unfold bodyOf
    split
    · exact (show 6 ≤ 20 by decide)
    · split
      · exact (show 9 ≤ 20 by decide)
      · exact (show 6 ≤ 20 by decide)
  refine ⟨lt, fun k st hs hl => ?_, fun k p hs => ?_, fun k st hs e v he hv => ?_, fun k p r hs => ?_, fun e v he hv => ?_, by omega, by omega, h1, h64, ?_⟩
  · have := List.all_eq_true.mp la st (List.mem_of_getElem? hs)
    cases st with
    | save p => cases hl
    | _ => exact of_decide_eq_true this
  · exact of_decide_eq_true (List.all_eq_true.mp la _ (List.mem_of_getElem? hs))
  · rw [runE_eq] at hv
    exact okV_at (body_okV l0 l1 l2 hk n turned g he) k st hs v hv
  · have e1 : (D0 r0 r1 r2 r3 c).start 1 + 0 = ((c + 0 : Nat) : Int) := by rw [start1]; rfl
    have e2 : (D0 r0 r1 r2 r3 c).start 2 + 0 = ((c + c + 0 : Nat) : Int) := by rw [start2]; rfl
    rcases spreads_body _ _ _ _ _ (List.mem_of_getElem? hs) p r rfl with rfl | rfl
    · exact ⟨(show 1 ≤ 4 by decide), by rw [e1]; exact inR l0 l1 l2 (by omega) (by omega)⟩
    · exact ⟨(show 2 ≤ 4 by decide), by rw [e2]; exact inR l0 l1 l2 (by omega) (by omega)⟩
  · rw [runE_eq] at hv
    exact okV_fin (body_okV l0 l1 l2 hk n turned g he) v hv
  · rw [cells_len l0 l1 l2]
    show c ≤ _
    omega
end
end Rb
set_option Elab.async false
set_option linter.all false
set_option maxRecDepth 100000
set_option maxHeartbeats 4000000
/-! plain: the run and the law's own play come to the same -/
namespace Rb
open PySem PySem.Spec PyProof.Rows L2
theorem lawE_str {r1 r2 r3 : List Int} {n : Int} {turned : Bool} {e : Nat} {f : Str} (h : lawE r1 r2 r3 n turned e = .error f) : PyData.canLay0 (.str f) = true := by
  unfold lawE at h
  split at h
  · cases h
    decide +kernel
  · split at h
    · cases h
      decide +kernel
    · cases h
theorem same_end {r0 r1 r2 r3 cells os : List Int} {c : Nat} {body : List Stp} {F : Nat → Except Str Int} {rv rv2 : V} {H H2 : Hp} (l0 : r0.length = c) (hv : ∀ e, e < c → val (D0 r0 r1 r2 r3 c) body e = F e) (O : Outcome (D0 r0 r1 r2 r3 c) body cells rv H) (Y : PlayOut F c r0 os rv2 H2) :
    cells = os ++ r1 ++ r2 ++ r3 ∧ ((rv = .non ∧ rv2 = .non) ∨ ∃ r rr n f, rv = .ref r ∧ rv2 = .ref rr ∧ H r = some (.tup [.int 0, .int n, .str f]) ∧ H2 rr = some (.tup [.int 0, .int n, .str f]) ∧ ∃ e, F e = .error f) := by
  obtain ⟨n, hn, cl, hc1, hc2, hend⟩ := O
  obtain ⟨m, hm, ol, ho1, ho2, oend⟩ := Y
  have hn' : n ≤ c := hn
  have e : n = m := by
    rcases Nat.lt_trichotomy n m with h | h | h
    · rcases hend with ⟨h1, _⟩ | ⟨_, f, r, h2, _⟩
      · have h1' : n = c := h1
        omega
      · obtain ⟨v, hv1, _⟩ := ho1 n h
        rw [hv n (by omega), hv1] at h2
        cases h2
    · exact h
    · rcases oend with ⟨h1, _⟩ | ⟨_, f, r, h2, _⟩
      · omega
      · obtain ⟨v, hv1, _⟩ := hc1 m h
        rw [hv m (by omega), h2] at hv1
        cases hv1
  subst e
  have cl' : cells.length = (r0 ++ r1 ++ r2 ++ r3).length := cl
  have hc2' : ∀ j, n ≤ j → cells[j]? = (r0 ++ r1 ++ r2 ++ r3)[j]? := hc2
  have a0 : ∀ l : List Int, l ++ r1 ++ r2 ++ r3 = l ++ (r1 ++ r2 ++ r3) := fun l => by simp [List.append_assoc]
  refine ⟨?_, ?_⟩
  · apply List.ext_getElem?
    intro j
    by_cases hj : j < n
    · obtain ⟨v, hv1, hv2⟩ := hc1 j hj
      obtain ⟨u, hu1, hu2⟩ := ho1 j hj
      rw [hv j (by omega), hu1] at hv1
      cases hv1
      have hjo : j < os.length := by omega
      rw [hv2, List.append_assoc, List.append_assoc, List.getElem?_append_left hjo, hu2]
    · rw [hc2' j (by omega)]
      by_cases hjc : j < c
      · rw [a0 r0, a0 os, List.getElem?_append_left (by omega), List.getElem?_append_left (by omega), ho2 j (by omega)]
      · rw [a0 r0, a0 os]
        generalize r1 ++ r2 ++ r3 = t
        rw [List.getElem?_append_right (by omega), List.getElem?_append_right (by omega), ol]
  · rcases hend with ⟨h1, h2⟩ | ⟨h1, f, r, h2, h3, h4⟩
    · have h1' : n = c := h1
      rcases oend with ⟨_, h5⟩ | ⟨h5, _⟩
      · exact .inl ⟨h2, h5⟩
      · omega
    · have h1' : n < c := h1
      rcases oend with ⟨h5, _⟩ | ⟨h5, f2, r2, h6, h7, h8⟩
      · omega
      · rw [hv n h5, h6] at h2
        cases h2
        exact .inr ⟨r, r2, n, f, h3, h7, h4, h8, n, h6⟩
end Rb
set_option Elab.async false
set_option linter.all false
set_option maxRecDepth 100000
set_option maxHeartbeats 4000000
/-! plain: what the law's walk asks -/
namespace Rb
open PySem PySem.Spec PyProof.Rows L2
theorem StepsAt.ats {H : Hp} : ∀ {l : List V} {m : List (List V)} {i : Nat} {st : List V}, StepsAt H l m → m[i]? = some st → ∃ a : Addr, l[i]? = some (V.ref a) ∧ H a = some (.tup st)
  | _, _, 0, _, .cons ⟨b, e, h⟩ _, hx => ⟨b, congrArg some e, h.trans (congrArg (fun z => some (HO.tup z)) (Option.some.inj hx))⟩
  | _, _, i + 1, _, .cons _ t, hx => StepsAt.ats (i := i) t hx
theorem code_at {H : Hp} {l : List V} {m : List (List V)} (s : StepsAt H l m) : CodeAt H l m := ⟨s.length, fun _ _ h => StepsAt.ats s h⟩
theorem body_len (one turned : Bool) (size : Nat) (n : Int) : (bodyOf one turned size n).length ≤ 9 := by
  unfold bodyOf
  split
  · exact (show 6 ≤ 9 by decide)
  · split
    · exact (show 9 ≤ 9 by decide)
    · exact (show 6 ≤ 9 by decide)
theorem lay_len (c : Nat) (z : Int) (turned : Bool) (size : Nat) (n : Int) (hs : size = 1 ∨ size = 2 ∨ size = 4) : (layF [(c : Int), c, c, z] (8 / size) (fmOf turned n) 0 0).length < 900 := by
  have h := congrArg List.length (code_eq c z turned size n hs)
  have h2 := body_len (decide (c = 1)) turned size n
  unfold codeOf codeV at h
  simp only [List.length_cons, List.length_append, List.length_nil, List.length_map] at h
  omega
theorem size_ok (turned : Bool) (n : Int) {g : Nat} (h : okG g) : sizeOf' (fmOf turned n) g = 1 ∨ sizeOf' (fmOf turned n) g = 2 ∨ sizeOf' (fmOf turned n) g = 4 := by
  rw [size_fm]
  rcases h with rfl | rfl | rfl | rfl
  · cases turned
    · exact .inr (.inl rfl)
    · exact .inr (.inr rfl)
  · exact .inl rfl
  · exact .inr (.inl rfl)
  · exact .inr (.inr rfl)
theorem someL_len (xs : List Int) (a : Int) (n : Nat) : (someL xs a n).length = n := by
  unfold someL
  rw [List.length_map, List.length_range]
theorem planted_len (xs : List Int) (c n : Int) : (plantedL xs c n).length = xs.length := by
  unfold plantedL
  split
  · dsimp only
    split
    · rw [List.length_set, List.length_set]
    · rw [List.length_set]
  · rfl
theorem planted_mem {xs : List Int} {c n x : Int} (h : x ∈ plantedL xs c n) : x ∈ xs ∨ x = n := by
  unfold plantedL at h
  split at h
  · dsimp only at h
    split at h
    · rcases List.mem_or_eq_of_mem_set h with h | h
      · exact List.mem_or_eq_of_mem_set h
      · exact .inr h
    · exact List.mem_or_eq_of_mem_set h
  · exact .inl h
/-- the group that is drawn -/
def grp (c : Int) : Nat := if c % 4 = 0 then 0 else if c % 4 = 1 then 1 else if c % 4 = 2 then 2 else 4
theorem grp_ok (c : Int) : okG (grp c) := by
  unfold grp okG
  split
  · exact .inl rfl
  · split
    · exact .inr (.inl rfl)
    · split
      · exact .inr (.inr (.inl rfl))
      · exact .inr (.inr (.inr rfl))
theorem grp_at (c : Int) : atI [V.int 0, V.int 1, V.int 2, V.int 4] (c % 4) = some (.int (grp c : Nat)) := by
  unfold grp
  split
  · rename_i h
    rw [h]
    exact atI_nat (j := 0) rfl
  · split
    · rename_i h
      rw [h]
      exact atI_nat (j := 1) rfl
    · split
      · rename_i h
        rw [h]
        exact atI_nat (j := 2) rfl
      · have h : c % 4 = ((3 : Nat) : Int) := by omega
        rw [h]
        exact atI_nat (j := 3) rfl
end Rb
set_option Elab.async false
set_option linter.all false
set_option maxRecDepth 100000
set_option maxHeartbeats 4000000
/-! the law -/
namespace Rb
open PySem PySem.Spec PyProof.Rows L2
def spLaw (K : PySem.W.Frag) : Sp := fun vs H Q _ => ∃ (a : Addr) (ns : List Int), vs = [.ref a] ∧ SqL K H a (ns.map V.int) ∧ ns.length ≤ 63 ∧ ∀ H', Q (.bl true) H'
theorem cutV_all {xs : List V} (h : xs.length ≤ 400) : cutV xs none (some (400 : Int)) = xs := by
  unfold cutV
  rw [HT.sIx_none, show (400 : Int) = ((400 : Nat) : Int) from rfl, HT.sIx_nat, List.drop_zero, Nat.sub_zero, Nat.min_eq_right h, List.take_length]
def cnt (ns : List Int) : Nat := max 1 ns.length
def siz (ns : List Int) : Nat := (1 + cellOf ns 1 % 6).toNat
theorem siz_int (ns : List Int) : 1 + cellOf ns 1 % 6 = (siz ns : Int) := by
  unfold siz
  omega
theorem siz_in (ns : List Int) : 1 ≤ siz ns ∧ siz ns ≤ 6 := by
  unfold siz
  omega
theorem cnt_int (ns : List Int) : (if ((ns.length : Nat) : Int) > (1 : Int) then ((ns.length : Nat) : Int) else 1) = (cnt ns : Int) := by
  unfold cnt
  split <;> omega
/-- the rows as they are laid up -/
structure RowsQ (H H' : Hp) (rw q0 q1 q2 q3 : Addr) (r0 r1 r2 r3 : List Int) : Prop where
  sm : Same H H'
  hw : H' rw = some (.lst [.ref q0, .ref q1, .ref q2, .ref q3])
  h0 : H' q0 = some (.lst (r0.map V.int))
  h1 : H' q1 = some (.lst (r1.map V.int))
  h2 : H' q2 = some (.lst (r2.map V.int))
  h3 : H' q3 = some (.lst (r3.map V.int))
  z0 : H q0 = none
  z1 : H q1 = none
  z2 : H q2 = none
  z3 : H q3 = none
  zw : H rw = none
  n01 : q0 ≠ q1
  n02 : q0 ≠ q2
  n12 : q1 ≠ q2
  n13 : q1 ≠ q3
  n23 : q2 ≠ q3
  nw0 : q0 ≠ rw
  nw1 : q1 ≠ rw
  nw2 : q2 ≠ rw
  nw3 : q3 ≠ rw
section
variable {H H' : Hp} {rw q0 q1 q2 q3 : Addr} {r0 r1 r2 r3 : List Int}
theorem RowsQ.set1 (R : RowsQ H H' rw q0 q1 q2 q3 r0 r1 r2 r3) (r : List Int) : RowsQ H (upd H' q1 (.lst (r.map V.int))) rw q0 q1 q2 q3 r0 r r2 r3 :=
  { R with
    sm := fun z o hz => by rw [upd_ne (ne_of_none hz R.z1)]; exact R.sm z o hz
    hw := upa R.nw1.symm R.hw
    h0 := upa R.n01 R.h0
    h1 := upd_same
    h2 := upa R.n12.symm R.h2
    h3 := upa R.n13.symm R.h3 }
theorem RowsQ.set2 (R : RowsQ H H' rw q0 q1 q2 q3 r0 r1 r2 r3) (r : List Int) : RowsQ H (upd H' q2 (.lst (r.map V.int))) rw q0 q1 q2 q3 r0 r1 r r3 :=
  { R with
    sm := fun z o hz => by rw [upd_ne (ne_of_none hz R.z2)]; exact R.sm z o hz
    hw := upa R.nw2.symm R.hw
    h0 := upa R.n02 R.h0
    h1 := upa R.n12 R.h1
    h2 := upd_same
    h3 := upa R.n23.symm R.h3 }
theorem RowsQ.same (R : RowsQ H H' rw q0 q1 q2 q3 r0 r1 r2 r3) {H2 : Hp} (e : Same H' H2) : RowsQ H H2 rw q0 q1 q2 q3 r0 r1 r2 r3 :=
  { R with sm := R.sm.trans e, hw := e _ _ R.hw, h0 := e _ _ R.h0, h1 := e _ _ R.h1, h2 := e _ _ R.h2, h3 := e _ _ R.h3 }
theorem RowsQ.swap1 (R : RowsQ H H' rw q0 q1 q2 q3 r0 r1 r2 r3) {p : Addr} {H2 : Hp} {r : List Int} (hp : H' p = none) (e : Same H' H2) (g : H2 p = some (.lst (r.map V.int))) : RowsQ H (upd H2 rw (.lst [.ref q0, .ref p, .ref q2, .ref q3])) rw q0 p q2 q3 r0 r r2 r3 where
  sm := fun z o hz => by rw [upd_ne (ne_of_none hz R.zw)]; exact e _ _ (R.sm z o hz)
  hw := upd_same
  h0 := upa R.nw0 (e _ _ R.h0)
  h1 := upa (ne_of_none R.hw hp).symm g
  h2 := upa R.nw2 (e _ _ R.h2)
  h3 := upa R.nw3 (e _ _ R.h3)
  z0 := R.z0
  z1 := R.sm.free hp
  z2 := R.z2
  z3 := R.z3
  zw := R.zw
  n01 := ne_of_none R.h0 hp
  n02 := R.n02
  n12 := (ne_of_none R.h2 hp).symm
  n13 := (ne_of_none R.h3 hp).symm
  n23 := R.n23
  nw0 := R.nw0
  nw1 := (ne_of_none R.hw hp).symm
  nw2 := R.nw2
  nw3 := R.nw3
theorem RowsQ.swap2 (R : RowsQ H H' rw q0 q1 q2 q3 r0 r1 r2 r3) {p : Addr} {H2 : Hp} {r : List Int} (hp : H' p = none) (e : Same H' H2) (g : H2 p = some (.lst (r.map V.int))) : RowsQ H (upd H2 rw (.lst [.ref q0, .ref q1, .ref p, .ref q3])) rw q0 q1 p q3 r0 r1 r r3 where
  sm := fun z o hz => by rw [upd_ne (ne_of_none hz R.zw)]; exact e _ _ (R.sm z o hz)
  hw := upd_same
  h0 := upa R.nw0 (e _ _ R.h0)
  h1 := upa R.nw1 (e _ _ R.h1)
  h2 := upa (ne_of_none R.hw hp).symm g
  h3 := upa R.nw3 (e _ _ R.h3)
  z0 := R.z0
  z1 := R.z1
  z2 := R.sm.free hp
  z3 := R.z3
  zw := R.zw
  n01 := R.n01
  n02 := ne_of_none R.h0 hp
  n12 := ne_of_none R.h1 hp
  n13 := R.n13
  n23 := (ne_of_none R.h3 hp).symm
  nw0 := R.nw0
  nw1 := R.nw1
  nw2 := (ne_of_none R.hw hp).symm
  nw3 := R.nw3
end
def num1 (ns : List Int) (k : Nat) : Int := keptBy (cellOf ns k) + (if keptBy (cellOf ns k) = 0 then 1 else 0)
def num2 (ns : List Int) (k : Nat) : Int := cellOf ns k / 5 % (siz ns : Int)
def row1 (ns : List Int) (n : Nat) : List Int := (List.range n).map (num1 ns)
def row2 (ns : List Int) (n : Nat) : List Int := (List.range n).map (num2 ns)
theorem row1_succ (ns : List Int) (n : Nat) : row1 ns (n + 1) = row1 ns n ++ [num1 ns n] := by
  unfold row1
  rw [List.range_succ, List.map_append]
  rfl
theorem row2_succ (ns : List Int) (n : Nat) : row2 ns (n + 1) = row2 ns n ++ [num2 ns n] := by
  unfold row2
  rw [List.range_succ, List.map_append]
  rfl
theorem mk_same {H : Hp} {x dx : Addr} {o1 o2 : HO} (hx : H x = none) (hdx : H dx = none) : Same H (upd (upd (upd H dx (.own x)) x o1) x o2) := fun z o hz => by
  rw [upd_ne (ne_of_none hz hx), upd_ne (ne_of_none hz hx), upd_ne (ne_of_none hz hdx)]
  exact hz
theorem mk_same1 {H : Hp} {x dx : Addr} {o : HO} (hx : H x = none) (hdx : H dx = none) : Same H (upd (upd H dx (.own x)) x o) := fun z u hz => by
  rw [upd_ne (ne_of_none hz hx), upd_ne (ne_of_none hz hdx)]
  exact hz
abbrev lensL (c : Nat) (z : Int) : List Int := [(c : Int), c, c, z]
def trn (ns : List Int) : Bool := decide (V.int (cellOf ns 1 / 12 % 2) = V.int 1)
def bey (ns : List Int) : Int := if cellOf ns 1 / 6 % 2 = 0 then -1 else (siz ns : Int)
theorem bey_at (ns : List Int) : atI [V.int (-1), V.int (siz ns : Nat)] (cellOf ns 1 / 6 % 2) = some (.int (bey ns)) := by
  unfold bey
  by_cases h : cellOf ns 1 / 6 % 2 = 0
  · rw [if_pos h, h]
    exact atI_nat (j := 0) rfl
  · have h1 : cellOf ns 1 / 6 % 2 = ((1 : Nat) : Int) := by omega
    rw [if_neg h, h1]
    exact atI_nat (j := 1) rfl
theorem nn {H : Hp} {a : Addr} {o : HO} (h : H a = some o) : H a ≠ none := fun z => by
  rw [h] at z
  cases z
theorem small_le {n : Nat} (h : n < 1000) : n ≤ sizeLine := Nat.le_of_lt (small1000 (Nat.le_of_lt h))
/-- the group's size -/
def szn (ns : List Int) : Nat := sizeOf' (fmOf (trn ns) (keptBy (cellOf ns 4))) (grp (cellOf ns 0))
theorem szn_in (ns : List Int) : szn ns = 1 ∨ szn ns = 2 ∨ szn ns = 4 := size_ok _ _ (grp_ok _)
def bdy (ns : List Int) : List Stp := bodyOf (decide (cnt ns = 1)) (trn ns) (szn ns) (keptBy (cellOf ns 4))
abbrev rw0 (ns : List Int) : List Int := someL ns 1 (cnt ns)
abbrev rw1 (ns : List Int) : List Int := plantedL (row1 ns (cnt ns)) (cellOf ns 2) 0
abbrev rw2 (ns : List Int) : List Int := plantedL (row2 ns (cnt ns)) (cellOf ns 3) (bey ns)
abbrev rw3 (ns : List Int) : List Int := someL ns 4 (siz ns)
theorem rw1_len (ns : List Int) : (rw1 ns).length = cnt ns := by
  rw [planted_len]
  unfold row1
  rw [List.length_map, List.length_range]
theorem rw2_len (ns : List Int) : (rw2 ns).length = cnt ns := by
  rw [planted_len]
  unfold row2
  rw [List.length_map, List.length_range]
theorem rw1_in (ns : List Int) : ∀ x ∈ rw1 ns, -(2 ^ 63) ≤ x ∧ x < 2 ^ 63 := by
  intro x hx
  rcases planted_mem hx with hx | rfl
  · unfold row1 at hx
    obtain ⟨k, _, rfl⟩ := List.mem_map.mp hx
    have h := keptBy_in (cellOf ns k)
    unfold num1
    split
    · rename_i h0
      rw [h0]
      omega
    · omega
  · omega
def lan (ns : List Int) : Nat := (1 + cellOf ns 0 / 8 % 16).toNat
theorem lan_int (ns : List Int) : 1 + cellOf ns 0 / 8 % 16 = (lan ns : Int) := by
  unfold lan
  omega
theorem lan_in (ns : List Int) : 1 ≤ lan ns ∧ lan ns ≤ 16 := by
  unfold lan
  omega
/-- the code made, shortened or not -/
structure CodeQ (H H' : Hp) (ns : List Int) (rw q0 q1 q2 q3 lg cd : Addr) (refs : List V) : Prop where
  r : RowsQ H H' rw q0 q1 q2 q3 (rw0 ns) (rw1 ns) (rw2 ns) (rw3 ns)
  l : H' lg = some (.lst ((lensL (cnt ns) (siz ns : Nat)).map V.int))
  c : H' cd = some (.lst refs)
  s : StepsAt H' refs (codeV (cnt ns) (szn ns) (bdy ns))
theorem CodeQ.same {H H' H2 : Hp} {ns : List Int} {rw q0 q1 q2 q3 lg cd : Addr} {refs : List V} (C : CodeQ H H' ns rw q0 q1 q2 q3 lg cd refs) (e : Same H' H2) : CodeQ H H2 ns rw q0 q1 q2 q3 lg cd refs :=
  ⟨C.r.same e, e _ _ C.l, e _ _ C.c, C.s.same e⟩
theorem fn_mk {P : Program} {w : World} {K : PySem.W.Frag} {mg : Str → Option Value} {base : Heap} {x qual : Str} {params : Arguments} {body : List Stmt} {scope : Scope} {f : Addr} {N ps : List Str} {k : Nat} {sp : Sp} {kws : List (Str × V)} {dv : List V} {fd : FuncData}
    (F : FunD K x qual params body scope dv kws f fd) (S : FnScope N ps scope) (len : ∀ vs H Q E, sp vs H Q E → vs.length = ps.length)
    (hbody : ∀ (cdv : Value) (A : Around) (outer : List PySem.Env) (s : Shared) (H : Hp) (vs : List V) (Q : VK) (E : XK), Room k (A.deeper (envOfC qual scope s.heap.objs.size f cdv)) → sp vs H Q E →
      ∃ t, PSs (cxOf CX0 P w K mg base N qual scope f cdv A outer s H E).nox body t ∧ t { nx := fun _ H' => Q .non H', rt := Q } (start N vs) H) : FnOk P w K mg base CX0 (k + 1) f fd ps sp :=
  F.ok S len fun cdv A outer s H vs Q E hr h => by
    obtain ⟨t, h1, h2⟩ := hbody cdv A outer s H vs Q E hr h
    exact ⟨t, h1.nox, h2⟩
section
variable {P : Program} {w : World} {K : PySem.W.Frag} {mg : Str → Option Value} {base : Heap}
theorem sc_law : FnScope ["_law_script", "_law_count", "_law_size", "_law_rows", "_law_k", "_law_beyond", "_law_number", "_law_gathered", "_law_divided_by", "_law_turned", "_law_value", "_law_lengths", "_law_program", "_law_group", "_law_code", "_law_lanes", "_law_dust", "_law_found", "_law_out", "_law_refusal"] ["_law_script"] (defScope s_law) := ⟨rfl, rfl, rfl, by decide +kernel, rfl, by decide +kernel, by decide +kernel⟩
theorem bi_law {K : PySem.W.Frag} {f : Addr} {fd : FuncData} (F : FunD K "law" "law" (defArgs s_law) (defBody s_law) (defScope s_law) [] [] f fd) : Binds K fd ["_law_script"] [] := F.bindsN fun _ _ _ _ _ _ us hl => match us, hl with | [_], _ => rfl
theorem ok_law (T : Tx K mg) {fd : FuncData} (F : FunD K "law" "law" (defArgs s_law) (defBody s_law) (defScope s_law) [] [] (He.fAd K ("law", none)) fd) : FnOk P w K mg base CX0 60 (He.fAd K ("law", none)) fd ["_law_script"] (spLaw K) := by
  obtain ⟨fd_law_cell_at, G_law_cell_at, p_law_cell_at, ds_law_cell_at, v_law_cell_at, b_law_cell_at⟩ := ok_law_cell_at (P := P) (w := w) (base := base) T
  obtain ⟨fd_law_kept_by, G_law_kept_by, p_law_kept_by, ds_law_kept_by, v_law_kept_by, b_law_kept_by⟩ := ok_law_kept_by (P := P) (w := w) (base := base) T
  obtain ⟨fd_law_some, G_law_some, p_law_some, ds_law_some, v_law_some, b_law_some⟩ := ok_law_some (P := P) (w := w) (base := base) T
  obtain ⟨fd_law_planted, G_law_planted, p_law_planted, ds_law_planted, v_law_planted, b_law_planted⟩ := ok_law_planted (P := P) (w := w) (base := base) T
  obtain ⟨fd_law_play, G_law_play, p_law_play, ds_law_play, v_law_play, b_law_play⟩ := ok_law_play (P := P) (w := w) (base := base) T
  obtain ⟨fd_law_told, G_law_told, p_law_told, ds_law_told, v_law_told, b_law_told⟩ := ok_law_told (P := P) (w := w) (base := base) T
  obtain ⟨fd_made0, G_made0, p_made0, ds_made0, v_made0, b_made0⟩ := ok_made (P := P) (w := w) (base := base) T 4 (Nat.le_refl _) bi_made
  obtain ⟨fd_madeG, G_madeG, p_madeG, ds_madeG, v_madeG, b_madeG⟩ := ok_made (P := P) (w := w) (base := base) T 4 (Nat.le_refl _) bi_madeG
  obtain ⟨fd_shortened, G_shortened, p_shortened, ds_shortened, v_shortened, b_shortened⟩ := ok_shortened (P := P) (w := w) (base := base) T
  obtain ⟨fd_ran, G_ran, p_ran, ds_ran, v_ran, b_ran⟩ := ok_ran (P := P) (w := w) (base := base) T
  obtain ⟨fd_Number_init, G_Number_init, p_Number_init, ds_Number_init, v_Number_init, b_Number_init⟩ := ok_Number_init (P := P) (w := w) (base := base) T
  obtain ⟨fd_Cell_init, G_Cell_init, p_Cell_init, ds_Cell_init, v_Cell_init, b_Cell_init⟩ := ok_Cell_init (P := P) (w := w) (base := base) T
  obtain ⟨fd_At_init, G_At_init, p_At_init, ds_At_init, v_At_init, b_At_init⟩ := ok_At_init (P := P) (w := w) (base := base) T
  obtain ⟨fd_Pair_init, G_Pair_init, p_Pair_init, ds_Pair_init, v_Pair_init, b_Pair_init⟩ := ok_Pair_init (P := P) (w := w) (base := base) T
  obtain ⟨fd_Let_init, G_Let_init, p_Let_init, ds_Let_init, v_Let_init, b_Let_init⟩ := ok_Let_init (P := P) (w := w) (base := base) T
  obtain ⟨fd_Program_init, G_Program_init, p_Program_init, ds_Program_init, v_Program_init, b_Program_init⟩ := ok_Program_init (P := P) (w := w) (base := base) T
  refine fn_mk F sc_law (fun vs H Q E h => ?_) (fun cdv A outer s H vs Q E hr h => ?_)
  · obtain ⟨_, _, rfl, _⟩ := h
    rfl
  · obtain ⟨a, ns, rfl, hS, hl, k⟩ := h
    refine ⟨_, (pss_cons (ps_set (i := 1) sc_law.nd rfl (Or.inl rfl) (pe_callB (call_max2 rfl) (by rfl) T.b_max (by decide +kernel) (pa_cons pe_int (pa_cons (pe_callB call_len_seq (by rfl) T.b_len boot_len (pa_cons (pe_slice sl_list (pv 0) po_none (po_some pe_int)) pa_nil)) pa_nil))))
  (C8.pss_cut (ps_set (i := 2) sc_law.nd rfl (Or.inl rfl) (pe_op op_add pe_int (pe_op op_mod (pe_call G_law_cell_at (hr.mono (by decide)) rfl T.g_law_cell_at p_law_cell_at b_law_cell_at v_law_cell_at pass0 (pa_cons (pv 0) (pa_cons pe_int pa_nil))) pe_int)))
  (C8.pss_cut (ps_set (i := 3) sc_law.nd rfl (Or.inl rfl) (pe_lst (pa_cons (pe_call G_law_some (hr.mono (by decide)) rfl T.g_law_some p_law_some b_law_some v_law_some pass0 (pa_cons (pv 0) (pa_cons pe_int (pa_cons (pv 1) pa_nil)))) (pa_cons (pe_lst pa_nil) (pa_cons (pe_lst pa_nil) (pa_cons (pe_call G_law_some (hr.mono (by decide)) rfl T.g_law_some p_law_some b_law_some v_law_some pass0 (pa_cons (pv 0) (pa_cons pe_int (pa_cons (pv 2) pa_nil)))) pa_nil))))))
  (pss_cons (ps_for PassesOwn.never rfl (pi_range1 rfl T.b_range (pa_cons (pv 1) pa_nil)) (pg_name (i := 4) sc_law.nd rfl (Or.inl rfl))
  (pss_cons (ps_set (i := 6) sc_law.nd rfl (Or.inl rfl) (pe_call G_law_kept_by (hr.mono (by decide)) rfl T.g_law_kept_by p_law_kept_by b_law_kept_by v_law_kept_by pass0 (pa_cons (pe_call G_law_cell_at (hr.mono (by decide)) rfl T.g_law_cell_at p_law_cell_at b_law_cell_at v_law_cell_at pass0 (pa_cons (pv 0) (pa_cons (pv 4) pa_nil))) pa_nil)))
  (pss_cons (ps_expr (pe_bm PySem.F.plainAttrs_list PySem.F.slot_list_append PySem.F.type_list_append mt_append (pe_ix ix_list (pv 3) pe_int (fun _ _ => rfl)) (pa_cons (pe_op op_add (pv 6) (pe_callTy call_int1 (by rfl) T.b_int (by decide +kernel) (pa_cons (pe_cmpR op_eq (pv 6) pe_int (nomark _)) pa_nil))) pa_nil)))
  (pss_one (ps_expr (pe_bm PySem.F.plainAttrs_list PySem.F.slot_list_append PySem.F.type_list_append mt_append (pe_ix ix_list (pv 3) pe_int (fun _ _ => rfl)) (pa_cons (pe_op op_modN (pe_op op_fdiv (pe_call G_law_cell_at (hr.mono (by decide)) rfl T.g_law_cell_at p_law_cell_at b_law_cell_at v_law_cell_at pass0 (pa_cons (pv 0) (pa_cons (pv 4) pa_nil))) pe_int) (pv 2)) pa_nil)))))))
  (pss_cons (ps_asg (pe_call G_law_planted (hr.mono (by decide)) rfl T.g_law_planted p_law_planted b_law_planted v_law_planted pass0 (pa_cons (pe_ix ix_list (pv 3) pe_int (fun _ _ => rfl)) (pa_cons (pe_call G_law_cell_at (hr.mono (by decide)) rfl T.g_law_cell_at p_law_cell_at b_law_cell_at v_law_cell_at pass0 (pa_cons (pv 0) (pa_cons pe_int pa_nil))) (pa_cons pe_int pa_nil)))) (pg_sub (pv 3) pe_int set_list))
  (pss_cons (ps_set (i := 5) sc_law.nd rfl (Or.inl rfl) (pe_ix ix_list (pe_lst (pa_cons (pe_un un_neg pe_int) (pa_cons (pv 2) pa_nil))) (pe_op op_mod (pe_op op_fdiv (pe_call G_law_cell_at (hr.mono (by decide)) rfl T.g_law_cell_at p_law_cell_at b_law_cell_at v_law_cell_at pass0 (pa_cons (pv 0) (pa_cons pe_int pa_nil))) pe_int) pe_int) (fun _ _ => rfl)))
  (C8.pss_cut (ps_asg (pe_call G_law_planted (hr.mono (by decide)) rfl T.g_law_planted p_law_planted b_law_planted v_law_planted pass0 (pa_cons (pe_ix ix_list (pv 3) pe_int (fun _ _ => rfl)) (pa_cons (pe_call G_law_cell_at (hr.mono (by decide)) rfl T.g_law_cell_at p_law_cell_at b_law_cell_at v_law_cell_at pass0 (pa_cons (pv 0) (pa_cons pe_int pa_nil))) (pa_cons (pv 5) pa_nil)))) (pg_sub (pv 3) pe_int set_list))
  (pss_cons (ps_set (i := 6) sc_law.nd rfl (Or.inl rfl) (pe_call G_law_kept_by (hr.mono (by decide)) rfl T.g_law_kept_by p_law_kept_by b_law_kept_by v_law_kept_by pass0 (pa_cons (pe_call G_law_cell_at (hr.mono (by decide)) rfl T.g_law_cell_at p_law_cell_at b_law_cell_at v_law_cell_at pass0 (pa_cons (pv 0) (pa_cons pe_int pa_nil))) pa_nil)))
  (pss_cons (ps_set (i := 7) sc_law.nd rfl (Or.inl rfl) (pe_make T.k_At G_At_init (hr.mono (by decide)) rfl T.g_At b_At_init v_At_init pass0 (pa_cons pe_int (pa_cons (pe_make T.k_Cell G_Cell_init (hr.mono (by decide)) rfl T.g_Cell b_Cell_init v_Cell_init pass0 (pa_cons pe_int pa_nil)) pa_nil))))
  (pss_cons (ps_set (i := 8) sc_law.nd rfl (Or.inl rfl) (pe_make T.k_Pair G_Pair_init (hr.mono (by decide)) rfl T.g_Pair b_Pair_init v_Pair_init pass0 (pa_cons pe_str (pa_cons (pe_make T.k_Number G_Number_init (hr.mono (by decide)) rfl T.g_Number b_Number_init v_Number_init pass0 (pa_cons (pv 6) pa_nil)) (pa_cons (pe_make T.k_Cell G_Cell_init (hr.mono (by decide)) rfl T.g_Cell b_Cell_init v_Cell_init pass0 (pa_cons pe_int pa_nil)) pa_nil)))))
  (pss_cons (ps_set (i := 9) sc_law.nd rfl (Or.inl rfl) (pe_cmpR op_eq (pe_op op_mod (pe_op op_fdiv (pe_call G_law_cell_at (hr.mono (by decide)) rfl T.g_law_cell_at p_law_cell_at b_law_cell_at v_law_cell_at pass0 (pa_cons (pv 0) (pa_cons pe_int pa_nil))) pe_int) pe_int) pe_int (nomark _)))
  (pss_cons (ps_set (i := 10) sc_law.nd rfl (Or.inl rfl) (pe_make T.k_Pair G_Pair_init (hr.mono (by decide)) rfl T.g_Pair b_Pair_init v_Pair_init pass0 (pa_cons pe_str (pa_cons (pv 7) (pa_cons (pv 8) pa_nil)))))
  (C8.pss_cut (ps_if (pt_val (pv 9))
  (pss_one (ps_set (i := 10) sc_law.nd rfl (Or.inl rfl) (pe_make T.k_Pair G_Pair_init (hr.mono (by decide)) rfl T.g_Pair b_Pair_init v_Pair_init pass0 (pa_cons pe_str (pa_cons (pv 8) (pa_cons (pv 7) pa_nil))))))
  pss_nil)
  (pss_cons (ps_set (i := 11) sc_law.nd rfl (Or.inl rfl) (pe_lst (pa_cons (pv 1) (pa_cons (pv 1) (pa_cons (pv 1) (pa_cons (pv 2) pa_nil))))))
  (C8.pss_cut (ps_set (i := 12) sc_law.nd rfl (Or.inl rfl) (pe_make T.k_Program G_Program_init (hr.mono (by decide)) rfl T.g_Program b_Program_init v_Program_init pass0 (pa_cons (pe_callTy call_list_of (by rfl) T.b_list (by decide +kernel) (pa_cons (pv 11) pa_nil)) (pa_cons (pe_lst pa_nil) (pa_cons (pe_lst (pa_cons (pe_make T.k_Let G_Let_init (hr.mono (by decide)) rfl T.g_Let b_Let_init v_Let_init pass0 (pa_cons pe_int (pa_cons (pv 10) pa_nil))) pa_nil)) pa_nil)))))
  (pss_cons (ps_set (i := 13) sc_law.nd rfl (Or.inl rfl) (pe_ix ix_list (pe_lst (pa_cons pe_int (pa_cons pe_int (pa_cons pe_int (pa_cons pe_int pa_nil))))) (pe_op op_mod (pe_call G_law_cell_at (hr.mono (by decide)) rfl T.g_law_cell_at p_law_cell_at b_law_cell_at v_law_cell_at pass0 (pa_cons (pv 0) (pa_cons pe_int pa_nil))) pe_int) (fun _ _ => rfl)))
  (pss_cons (ps_set (i := 14) sc_law.nd rfl (Or.inl rfl) (pe_call G_made0 (hr.mono (by decide)) rfl T.g_made p_made0 b_made0 v_made0 pass0 (pa_cons (pv 12) pa_nil)))
  (C8.pss_cut (ps_if (pt_cmpR op_ne (pv 13) pe_int (nomark _))
  (pss_one (ps_set (i := 14) sc_law.nd rfl (Or.inl rfl) (pe_call G_madeG (hr.mono (by decide)) rfl T.g_made p_madeG b_madeG v_madeG pass0 (pa_cons (pv 12) (pa_cons (pv 13) pa_nil)))))
  pss_nil)
  (C8.pss_cut (ps_if (pt_cmpR op_eq (pe_op op_mod (pe_op op_fdiv (pe_call G_law_cell_at (hr.mono (by decide)) rfl T.g_law_cell_at p_law_cell_at b_law_cell_at v_law_cell_at pass0 (pa_cons (pv 0) (pa_cons pe_int pa_nil))) pe_int) pe_int) pe_int (nomark _))
  (pss_one (ps_set (i := 14) sc_law.nd rfl (Or.inl rfl) (pe_call G_shortened (hr.mono (by decide)) rfl T.g_shortened p_shortened b_shortened v_shortened pass0 (pa_cons (pv 14) pa_nil))))
  pss_nil)
  (pss_cons (ps_set (i := 15) sc_law.nd rfl (Or.inl rfl) (pe_op op_add pe_int (pe_op op_mod (pe_op op_fdiv (pe_call G_law_cell_at (hr.mono (by decide)) rfl T.g_law_cell_at p_law_cell_at b_law_cell_at v_law_cell_at pass0 (pa_cons (pv 0) (pa_cons pe_int pa_nil))) pe_int) pe_int)))
  (C8.pss_cut (ps_set (i := 16) sc_law.nd rfl (Or.inl rfl) (pe_call G_law_some (hr.mono (by decide)) rfl T.g_law_some p_law_some b_law_some v_law_some pass0 (pa_cons (pv 0) (pa_cons pe_int (pa_cons (pe_op op_mod (pe_call G_law_cell_at (hr.mono (by decide)) rfl T.g_law_cell_at p_law_cell_at b_law_cell_at v_law_cell_at pass0 (pa_cons (pv 0) (pa_cons pe_int pa_nil))) pe_int) pa_nil)))))
  (pss_cons (ps_asg (pe_call G_law_play (hr.mono (by decide)) rfl T.g_law_play p_law_play b_law_play v_law_play pass0 (pa_cons (pv 3) (pa_cons (pv 6) (pa_cons (pv 9) pa_nil)))) (pg_tup rfl (pgs_cons (pg_name (i := 18) sc_law.nd rfl (Or.inl rfl)) (pgs_cons (pg_name (i := 19) sc_law.nd rfl (Or.inl rfl)) pgs_nil))))
  (pss_cons (ps_set (i := 17) sc_law.nd rfl (Or.inl rfl) (pe_call G_ran (hr.mono (by decide)) rfl T.g_ran p_ran b_ran v_ran pass0 (pa_cons (pv 14) (pa_cons (pe_callTy call_list_of (by rfl) T.b_list (by decide +kernel) (pa_cons (pv 11) pa_nil)) (pa_cons (pe_op op_cat (pe_op op_cat (pe_op op_cat (pe_ix ix_list (pv 3) pe_int (fun _ _ => rfl)) (pe_ix ix_list (pv 3) pe_int (fun _ _ => rfl))) (pe_ix ix_list (pv 3) pe_int (fun _ _ => rfl))) (pe_ix ix_list (pv 3) pe_int (fun _ _ => rfl))) (pa_cons (pv 15) (pa_cons (pv 16) (pa_cons (pe_lst pa_nil) pa_nil))))))))
  (pss_one (ps_ret (pe_call G_law_told (hr.mono (by decide)) rfl T.g_law_told p_law_told b_law_told v_law_told pass0 (pa_cons (pv 17) (pa_cons (pe_op op_cat (pe_op op_cat (pe_op op_cat (pv 18) (pe_ix ix_list (pv 3) pe_int (fun _ _ => rfl))) (pe_ix ix_list (pv 3) pe_int (fun _ _ => rfl))) (pe_ix ix_list (pv 3) pe_int (fun _ _ => rfl))) (pa_cons (pv 19) pa_nil))))))))))))))))))))))))))))), ?_⟩
    -- count, size
    have hcut : (cutV (ns.map V.int) none (some (400 : Int))).length = ns.length := by
      rw [cutV_all (by rw [List.length_map]; omega), List.length_map]
    refine ⟨_, rfl, _, rfl, a, _, rfl, hS, fun p1 hp1 => ?_⟩
    refine ⟨p1, _, rfl, .inl (seql upd_same), 1, _, rfl, ?_⟩
    rw [hcut, cnt_int]
    have s1 : Same H _ := same_new (o := .lst (cutV (ns.map V.int) none (some (400 : Int)))) hp1
    refine ⟨fun σ' H' => σ' = [some (.ref a), some (.int (cnt ns : Nat)), some (.int (siz ns : Nat)), none, none, none, none, none, none, none, none, none, none, none, none, none, none, none, none, none] ∧ Same H H', ?_, ?_⟩
    · refine ⟨_, rfl, a, ns, 1, rfl, s1.seq hS, _, _, rfl, rfl, (show (0 : Int) < 6 by decide), _, _, rfl, rfl, ?_, s1⟩
      rw [← siz_int]
      rfl
    clear s1 hcut hp1
    rintro σ1 H1 ⟨rfl, s1⟩
    -- the rows
    have hcn : 1 ≤ cnt ns ∧ cnt ns ≤ 63 := by
      unfold cnt
      omega
    have hsz := siz_in ns
    refine ⟨fun σ' H' => ∃ rw q0 q1 q2 q3 : Addr, σ' = [some (.ref a), some (.int (cnt ns : Nat)), some (.int (siz ns : Nat)), some (.ref rw), none, none, none, none, none, none, none, none, none, none, none, none, none, none, none, none] ∧ RowsQ H H' rw q0 q1 q2 q3 (someL ns 1 (cnt ns)) [] [] (someL ns 4 (siz ns)), ?_, ?_⟩
    · refine ⟨_, rfl, _, rfl, a, ns, 1, cnt ns, rfl, s1.seq hS, by decide, by omega, by omega, fun q0 H2 hq0 s2 g0 => ?_⟩
      refine ⟨(by show 0 ≤ sizeLine; decide), fun q1 hq1 => ⟨(by show 0 ≤ sizeLine; decide), fun q2 hq2 => ?_⟩⟩
      have s3 : Same H1 _ := (s2.trans (same_new (o := .lst []) hq1)).trans (same_new (o := .lst []) hq2)
      refine ⟨_, rfl, _, rfl, a, ns, 4, siz ns, rfl, (s1.trans s3).seq hS, by decide, by omega, by omega, fun q3 H4 hq3 s4 g3 => ?_⟩
      refine ⟨(by show 4 ≤ sizeLine; decide), fun rw hrw => ?_⟩
      have n01 : q0 ≠ q1 := ne_of_none g0 hq1
      have g0' := same_new (o := .lst []) hq1 _ _ g0
      have n02 : q0 ≠ q2 := ne_of_none g0' hq2
      have n12 : q1 ≠ q2 := ne_of_none (upd_same (H := H2) (a := q1) (o := .lst [])) hq2
      have g1 : (upd (upd H2 q1 (.lst [])) q2 (.lst [])) q1 = some (.lst []) := upa n12 upd_same
      have g2 : (upd (upd H2 q1 (.lst [])) q2 (.lst [])) q2 = some (.lst []) := upd_same
      have g0'' := same_new (o := .lst []) hq2 _ _ g0'
      have s5 := same_new (o := .lst [.ref q0, .ref q1, .ref q2, .ref q3]) hrw
      refine ⟨rw, q0, q1, q2, q3, rfl, ⟨((s1.trans s3).trans s4).trans s5, upd_same, s5 _ _ (s4 _ _ g0''), s5 _ _ (s4 _ _ g1), s5 _ _ (s4 _ _ g2), s5 _ _ g3, s1.free hq0, ?_, ?_, ?_, ?_, n01, n02, n12, ne_of_none g1 hq3, ne_of_none g2 hq3, ne_of_none (s4 _ _ g0'') hrw, ne_of_none (s4 _ _ g1) hrw, ne_of_none (s4 _ _ g2) hrw, ne_of_none g3 hrw⟩⟩
      · exact (s1.trans s2).free hq1
      · exact ((s1.trans s2).trans (same_new (o := .lst []) hq1)).free hq2
      · exact (s1.trans s3).free hq3
      · exact ((s1.trans s3).trans s4).free hrw
    rintro σ2 H2 ⟨rw, q0, q1, q2, q3, rfl, R⟩
    refine ⟨_, rfl, _, rfl, by omega, by omega, for_range (lo := 0) (n := cnt ns) (fun i σ H3 => ∃ v4 v6 : Option V, σ = [some (.ref a), some (.int (cnt ns : Nat)), some (.int (siz ns : Nat)), some (.ref rw), v4, none, v6, none, none, none, none, none, none, none, none, none, none, none, none, none] ∧ RowsQ H H3 rw q0 q1 q2 q3 (someL ns 1 (cnt ns)) (row1 ns i) (row2 ns i) (someL ns 4 (siz ns))) ?_ ?_ ?_⟩
    · exact ⟨_, _, rfl, R⟩
    · rintro i σ H3 hi ⟨v4, v6, rfl, R3⟩
      rw [show (0 : Int) + (i : Int) = (i : Int) from Int.zero_add _]
      refine ⟨_, rfl, _, rfl, a, ns, i, rfl, R3.sm.seq hS, _, rfl, fun H4 s4 => ?_⟩
      have R4 := R3.same s4
      have l1 : ((row1 ns i).map V.int).length < sizeLine := by
        rw [List.length_map]
        unfold row1
        rw [List.length_map, List.length_range]
        exact small1000 (by omega)
      have l2 : ((row2 ns i).map V.int).length < sizeLine := by
        rw [List.length_map]
        unfold row2
        rw [List.length_map, List.length_range]
        exact small1000 (by omega)
      refine ⟨_, rfl, rw, _, _, .ref q1, rfl, rfl, seql R4.hw, atI_nat (j := 1) rfl, .inl ⟨rfl, _, .inl (.inl R4.h1)⟩, _, rfl, _, rfl, rfl, .inr ⟨_, rfl, _, _, rfl, rfl, q1, _, _, rfl, rfl, R4.h1, l1, ?_⟩⟩
      have e1 : ((row1 ns i).map V.int) ++ [V.int (keptBy (cellOf ns i) + (if decide (V.int (keptBy (cellOf ns i)) = V.int 0) = true then 1 else 0))] = (row1 ns (i + 1)).map V.int := by
        rw [row1_succ, List.map_append]
        unfold num1
        by_cases h : keptBy (cellOf ns i) = 0
        · rw [h]
          rfl
        · rw [if_neg h, decide_eq_false (fun z => h (V.int.inj z))]
          rfl
      have R5 := R4.set1 (row1 ns (i + 1))
      rw [← e1] at R5
      refine ⟨_, rfl, rw, _, _, .ref q2, rfl, rfl, seql R5.hw, atI_nat (j := 2) rfl, .inl ⟨rfl, _, .inl (.inl R5.h2)⟩, _, rfl, _, rfl, a, ns, i, rfl, R5.sm.seq hS, _, _, rfl, rfl, ⟨by decide, by decide⟩, _, rfl, _, _, rfl, rfl, ?_, q2, _, _, rfl, rfl, R5.h2, l2, ?_⟩
      · show (siz ns : Int) ≠ 0
        omega
      have e2 : ((row2 ns i).map V.int) ++ [V.int ((cellOf ns i / 5).fmod (siz ns : Int))] = (row2 ns (i + 1)).map V.int := by
        rw [row2_succ, List.map_append, Int.fmod_eq_emod_of_nonneg _ (by omega)]
        rfl
      have R6 := (R4.set1 (row1 ns (i + 1))).set2 (row2 ns (i + 1))
      rw [← e1, ← e2] at R6
      exact ⟨_, _, rfl, R6⟩
    clear R
    rintro σ3 H3 ⟨v4, v6, rfl, R⟩
    have lr1 : (row1 ns (cnt ns)).length = cnt ns := by
      unfold row1
      rw [List.length_map, List.length_range]
    have lr2 : (row2 ns (cnt ns)).length = cnt ns := by
      unfold row2
      rw [List.length_map, List.length_range]
    refine ⟨_, rfl, rw, _, _, .ref q1, rfl, rfl, seql R.hw, atI_nat (j := 1) rfl, _, rfl, a, ns, 2, rfl, R.sm.seq hS, q1, row1 ns (cnt ns), cellOf ns 2, 0, rfl, seql R.h1, by omega, fun p1 H4 hp1 s4 g4 => ?_⟩
    refine ⟨_, rfl, rw, _, _, 1, rfl, rfl, s4 _ _ R.hw, ixN_nat (show 1 < 4 by decide), ?_⟩
    have R4 := R.swap1 hp1 s4 g4
    refine ⟨_, rfl, _, rfl, (by show 2 ≤ sizeLine; decide), fun qb hqb => ?_⟩
    have R5 := R4.same (same_new (o := .lst [V.int (-1), V.int (siz ns : Nat)]) hqb)
    refine ⟨_, rfl, a, ns, 1, rfl, R5.sm.seq hS, _, _, rfl, rfl, ⟨by decide, by decide⟩, _, _, rfl, rfl, (show (0 : Int) < 2 by decide), qb, _, _, .int (bey ns), rfl, rfl, seql upd_same, bey_at ns, ?_⟩
    refine ⟨fun σ' H' => ∃ (v4 v6 : Option V) (q1 q2 : Addr), σ' = [some (.ref a), some (.int (cnt ns : Nat)), some (.int (siz ns : Nat)), some (.ref rw), v4, some (.int (bey ns)), v6, none, none, none, none, none, none, none, none, none, none, none, none, none] ∧
      RowsQ H H' rw q0 q1 q2 q3 (someL ns 1 (cnt ns)) (plantedL (row1 ns (cnt ns)) (cellOf ns 2) 0) (plantedL (row2 ns (cnt ns)) (cellOf ns 3) (bey ns)) (someL ns 4 (siz ns)), ?_, ?_⟩
    · refine ⟨_, rfl, rw, _, _, .ref q2, rfl, rfl, seql R5.hw, atI_nat (j := 2) rfl, _, rfl, a, ns, 3, rfl, R5.sm.seq hS, _, rfl, q2, row2 ns (cnt ns), cellOf ns 3, bey ns, rfl, seql R5.h2, by omega, fun p2 H6 hp2 s6 g6 => ?_⟩
      refine ⟨_, rfl, rw, _, _, 2, rfl, rfl, s6 _ _ R5.hw, ixN_nat (show 2 < 4 by decide), ?_⟩
      exact ⟨_, _, p1, p2, rfl, R5.swap2 hp2 s6 g6⟩
    clear R R4 R5
    rintro σ6 H6 ⟨v4', v6', q1', q2', rfl, R⟩
    refine ⟨_, rfl, a, ns, 4, rfl, R.sm.seq hS, _, rfl, fun H7 s7 => ?_⟩
    refine fun x1 dx1 hx1 hdx1 hne1 => ⟨x1, dx1, .int 2, rfl, upd_same, rfl, fun x2 dx2 hx2 hdx2 hne2 => ⟨x2, dx2, .int 3, .ref x1, rfl, upd_same, rfl, ?_⟩⟩
    refine ⟨_, rfl, fun x3 dx3 hx3 hdx3 hne3 => ⟨x3, dx3, .int (keptBy (cellOf ns 4)), rfl, upd_same, rfl, fun x4 dx4 hx4 hdx4 hne4 => ⟨x4, dx4, .int 1, rfl, upd_same, rfl, fun x5 dx5 hx5 hdx5 hne5 => ⟨x5, dx5, .str "/", .ref x3, .ref x4, rfl, upd_same, rfl, ?_⟩⟩⟩⟩
    have R5 := (((((R.same s7).same (mk_same hx1 hdx1)).same (mk_same hx2 hdx2)).same (mk_same hx3 hdx3)).same (mk_same hx4 hdx4)).same (mk_same (o1 := .ins (He.ga K "Pair") dx5 []) (o2 := .ins (C_Pair K) dx5 (F_Pair (.str "/") (.ref x3) (.ref x4))) hx5 hdx5)
    refine ⟨_, rfl, a, ns, 1, rfl, R5.sm.seq hS, _, _, rfl, rfl, ⟨by decide, by decide⟩, _, _, rfl, rfl, (show (0 : Int) < 2 by decide), rfl, ?_⟩
    refine ⟨_, rfl, _, rfl, fun x6 dx6 hx6 hdx6 hne6 => ⟨x6, dx6, .str "+", .ref x2, .ref x5, rfl, upd_same, rfl, ?_⟩⟩
    have sa : Same _ _ := (((mk_same (o1 := .ins (He.ga K "At") dx2 []) (o2 := .ins (C_At K) dx2 (F_At (.int 3) (.ref x1))) hx2 hdx2).trans (mk_same (o1 := .ins (He.ga K "Number") dx3 []) (o2 := .ins (C_Number K) dx3 (F_Number (.int (keptBy (cellOf ns 4))))) hx3 hdx3)).trans (mk_same (o1 := .ins (He.ga K "Cell") dx4 []) (o2 := .ins (C_Cell K) dx4 (F_Cell (.int 1))) hx4 hdx4)).trans (mk_same (o1 := .ins (He.ga K "Pair") dx5 []) (o2 := .ins (C_Pair K) dx5 (F_Pair (.str "/") (.ref x3) (.ref x4))) hx5 hdx5)
    have g2 : FmAt K (upd (upd (upd _ dx2 (.own x2)) x2 (.ins (He.ga K "At") dx2 [])) x2 (.ins (C_At K) dx2 (F_At (.int 3) (.ref x1)))) (.at_ 3 (.cell 2)) x2 := ⟨dx2, x1, upd_same, dx1, mk_same hx2 hdx2 _ _ upd_same⟩
    have g2' := FmAt.same (((mk_same (o1 := .ins (He.ga K "Number") dx3 []) (o2 := .ins (C_Number K) dx3 (F_Number (.int (keptBy (cellOf ns 4))))) hx3 hdx3).trans (mk_same (o1 := .ins (He.ga K "Cell") dx4 []) (o2 := .ins (C_Cell K) dx4 (F_Cell (.int 1))) hx4 hdx4)).trans (mk_same (o1 := .ins (He.ga K "Pair") dx5 []) (o2 := .ins (C_Pair K) dx5 (F_Pair (.str "/") (.ref x3) (.ref x4))) hx5 hdx5)) g2
    have g5 : FmAt K (upd (upd (upd _ dx5 (.own x5)) x5 (.ins (He.ga K "Pair") dx5 [])) x5 (.ins (C_Pair K) dx5 (F_Pair (.str "/") (.ref x3) (.ref x4)))) (.pair "/" (.num (keptBy (cellOf ns 4))) (.cell 1)) x5 :=
      ⟨dx5, x3, x4, upd_same, ⟨dx3, mk_same hx5 hdx5 _ _ (mk_same hx4 hdx4 _ _ upd_same)⟩, ⟨dx4, mk_same hx5 hdx5 _ _ upd_same⟩⟩
    refine ⟨fun σ' H' => ∃ (v4 v6 v7 v8 : Option V) (fm : Addr), σ' = [some (.ref a), some (.int (cnt ns : Nat)), some (.int (siz ns : Nat)), some (.ref rw), v4, some (.int (bey ns)), some (.int (keptBy (cellOf ns 4))), v7, v8, some (.bl (trn ns)), some (.ref fm), none, none, none, none, none, none, none, none, none] ∧
      RowsQ H H' rw q0 q1' q2' q3 (someL ns 1 (cnt ns)) (plantedL (row1 ns (cnt ns)) (cellOf ns 2) 0) (plantedL (row2 ns (cnt ns)) (cellOf ns 3) (bey ns)) (someL ns 4 (siz ns)) ∧ FmAt K H' (fmOf (trn ns) (keptBy (cellOf ns 4))) fm, ⟨_, rfl, _, rfl, ?_⟩, ?_⟩
    · have R6 := R5.same (mk_same (o1 := .ins (He.ga K "Pair") dx6 []) (o2 := .ins (C_Pair K) dx6 (F_Pair (.str "+") (.ref x2) (.ref x5))) hx6 hdx6)
      have t6 := mk_same (o1 := .ins (He.ga K "Pair") dx6 []) (o2 := .ins (C_Pair K) dx6 (F_Pair (.str "+") (.ref x2) (.ref x5))) hx6 hdx6
      cases ht : trn ns with
      | false =>
        have ht' : decide (V.int (cellOf ns 1 / 12 % 2) = V.int 1) = false := ht
        rw [ht']
        exact iteF ⟨v4', some (.int (keptBy (cellOf ns 4))), some (.ref x2), some (.ref x5), x6, rfl, R6, dx6, x2, x5, upd_same, FmAt.same t6 g2', FmAt.same t6 g5⟩
      | true =>
        have ht' : decide (V.int (cellOf ns 1 / 12 % 2) = V.int 1) = true := ht
        rw [ht']
        refine iteT ⟨_, rfl, _, rfl, fun x7 dx7 hx7 hdx7 hne7 => ⟨x7, dx7, .str "+", .ref x5, .ref x2, rfl, upd_same, rfl, ?_⟩⟩
        have t7 := mk_same (o1 := .ins (He.ga K "Pair") dx7 []) (o2 := .ins (C_Pair K) dx7 (F_Pair (.str "+") (.ref x5) (.ref x2))) hx7 hdx7
        exact ⟨v4', some (.int (keptBy (cellOf ns 4))), some (.ref x2), some (.ref x5), x7, rfl, R6.same t7, dx7, x5, x2, upd_same, FmAt.same t7 (FmAt.same t6 g5), FmAt.same t7 (FmAt.same t6 g2')⟩
    rintro σ8 H8 ⟨v4, v6, v7, v8, fm, rfl, R8, hfm⟩
    refine ⟨_, rfl, _, rfl, _, rfl, _, rfl, (by show 4 ≤ sizeLine; decide), fun lg hlg => ?_⟩
    refine ⟨fun σ' H' => ∃ (v4 v7 v8 v10 : Option V) (lg pg lt fm y1 y2 y3 : Addr), σ' = [some (.ref a), some (.int (cnt ns : Nat)), some (.int (siz ns : Nat)), some (.ref rw), v4, some (.int (bey ns)), some (.int (keptBy (cellOf ns 4))), v7, v8, some (.bl (trn ns)), v10, some (.ref lg), some (.ref pg), none, none, none, none, none, none, none] ∧
      RowsQ H H' rw q0 q1' q2' q3 (someL ns 1 (cnt ns)) (plantedL (row1 ns (cnt ns)) (cellOf ns 2) 0) (plantedL (row2 ns (cnt ns)) (cellOf ns 3) (bey ns)) (someL ns 4 (siz ns)) ∧ ProgAt K pg lt fm y1 y2 y3 (lensL (cnt ns) (siz ns : Nat)) (fmOf (trn ns) (keptBy (cellOf ns 4))) H' ∧ H' lg = some (.lst ((lensL (cnt ns) (siz ns : Nat)).map V.int)), ?_, ?_⟩
    · refine ⟨_, rfl, lg, _, rfl, .inl (seql upd_same), fun lg2 hlg2 => ⟨(by show 0 ≤ sizeLine; decide), fun fq hfq => ?_⟩⟩
      refine ⟨_, rfl, fun lt ldx hlt hldx hlne => ⟨lt, ldx, .int 0, .ref fm, .non, rfl, upd_same, rfl, (by show 1 ≤ sizeLine; decide), fun sq hsq => ?_⟩⟩
      refine fun pg pdx hpg hpdx hpne => ⟨pg, pdx, lg2, fq, sq, ((lensL (cnt ns) (siz ns : Nat)).map V.int), [], [.ref lt], rfl, upd_same, ?_, ?_, ?_, fun y1 y2 y3 H' hp h1 h2 h3 f => ⟨rfl, ?_⟩⟩
      · exact mk_same1 hpg hpdx _ _ (same_new hsq _ _ (mk_same hlt hldx _ _ (same_new hfq _ _ upd_same)))
      · exact mk_same1 hpg hpdx _ _ (same_new hsq _ _ (mk_same hlt hldx _ _ upd_same))
      · exact mk_same1 hpg hpdx _ _ upd_same
      · have sQ : Same _ H' := fun z o hz => f z o (mk_same1 hpg hpdx z o hz) (ne_of_none hz hpg)
        have s8 : Same H8 H' := (((((same_new (o := .lst ((lensL (cnt ns) (siz ns : Nat)).map V.int)) hlg).trans (same_new hlg2)).trans (same_new hfq)).trans (mk_same hlt hldx)).trans (same_new hsq)).trans sQ
        refine ⟨v4, v7, v8, _, lg, pg, lt, fm, y1, y2, y3, rfl, R8.same s8, ⟨⟨pdx, hp⟩, ⟨ldx, sQ _ _ (same_new hsq _ _ upd_same)⟩, FmAt.same s8 hfm, h1, h3⟩, ?_⟩
        exact sQ _ _ (same_new hsq _ _ (mk_same hlt hldx _ _ (same_new hfq _ _ (same_new hlg2 _ _ upd_same))))
    rintro σ9 H9 ⟨v4', v7', v8', v10, lg, pg, lt, fm', y1, y2, y3, rfl, R9, PA, hlg⟩
    clear R8 hfm
    refine ⟨(by show 4 ≤ sizeLine; decide), fun gq hgq => ⟨_, rfl, a, ns, 0, rfl, (R9.same (same_new hgq)).sm.seq hS, _, _, rfl, rfl, (show (0 : Int) < 4 by decide), gq, _, _, .int (grp (cellOf ns 0) : Nat), rfl, rfl, seql upd_same, grp_at _, ?_⟩⟩
    have hgo := grp_ok (cellOf ns 0)
    have PA1 := PA.same (same_new (o := .lst [V.int 0, V.int 1, V.int 2, V.int 4]) hgq)
    have R10 := R9.same (same_new (o := .lst [V.int 0, V.int 1, V.int 2, V.int 4]) hgq)
    have hlg1 := same_new (o := .lst [V.int 0, V.int 1, V.int 2, V.int 4]) hgq _ _ hlg
    refine ⟨_, rfl, pg, lt, fm', y1, y2, y3, lensL (cnt ns) (siz ns : Nat), fmOf (trn ns) (keptBy (cellOf ns 4)), 0, rfl, PA1, depth_fm _ _, rows_fm _ _, (by show 0 < 4; decide), .inl rfl, lay_len _ _ _ _ _ (size_ok _ _ (.inl rfl)), fun H10 cd refs hcd s10 g10 st10 => ?_⟩
    refine ⟨fun σ' H' => ∃ (v4 v7 v8 v10 : Option V) (pg cd : Addr) (refs : List V), σ' = [some (.ref a), some (.int (cnt ns : Nat)), some (.int (siz ns : Nat)), some (.ref rw), v4, some (.int (bey ns)), some (.int (keptBy (cellOf ns 4))), v7, v8, some (.bl (trn ns)), v10, some (.ref lg), some (.ref pg), some (.int (grp (cellOf ns 0) : Nat)), some (.ref cd), none, none, none, none, none] ∧ CodeQ H H' ns rw q0 q1' q2' q3 lg cd refs, ?_, ?_⟩
    · refine ⟨_, rfl, rfl, _, rfl, ?_⟩
      have hcode := code_eq (cnt ns) (siz ns : Nat) (trn ns) (szn ns) (keptBy (cellOf ns 4)) (szn_in ns)
      by_cases hg : grp (cellOf ns 0) = 0
      · have e : (!decide (V.int ((grp (cellOf ns 0) : Nat) : Int) = V.int 0)) = false := by
          rw [hg]
          rfl
        have hsz : sizeOf' (fmOf (trn ns) (keptBy (cellOf ns 4))) 0 = szn ns := by
          unfold szn
          rw [hg]
        have st : StepsAt H10 refs (codeV (cnt ns) (szn ns) (bdy ns)) := by
          unfold bdy
          rw [← hcode, ← hsz]
          exact st10
        rw [e]
        exact iteF ⟨v4', v7', v8', v10, pg, cd, refs, rfl, R10.same s10, s10 _ _ hlg1, g10, st⟩
      · have e : (!decide (V.int ((grp (cellOf ns 0) : Nat) : Int) = V.int 0)) = true := by
          rw [decide_eq_false (fun z => hg (by have z' := V.int.inj z; omega))]
          rfl
        rw [e]
        refine iteT ⟨_, rfl, _, rfl, pg, lt, fm', y1, y2, y3, lensL (cnt ns) (siz ns : Nat), fmOf (trn ns) (keptBy (cellOf ns 4)), grp (cellOf ns 0), rfl, PA1.same s10, depth_fm _ _, rows_fm _ _, (by show 0 < 4; decide), hgo, lay_len _ _ _ _ _ (size_ok _ _ hgo), fun H11 cd2 refs2 hcd2 s11 g11 st11 => ?_⟩
        have st : StepsAt H11 refs2 (codeV (cnt ns) (szn ns) (bdy ns)) := by
          unfold bdy
          rw [← hcode]
          exact st11
        exact ⟨v4', v7', v8', v10, pg, cd2, refs2, rfl, (R10.same s10).same s11, s11 _ _ (s10 _ _ hlg1), g11, st⟩
    clear R9 R10 PA PA1 hlg1
    rintro σ11 H11 ⟨v4, v7, v8, v10', pg', cd', refs', rfl, C⟩
    refine ⟨fun σ' H' => ∃ (v4 v7 v8 v10 : Option V) (pg cd : Addr) (refs : List V), σ' = [some (.ref a), some (.int (cnt ns : Nat)), some (.int (siz ns : Nat)), some (.ref rw), v4, some (.int (bey ns)), some (.int (keptBy (cellOf ns 4))), v7, v8, some (.bl (trn ns)), v10, some (.ref lg), some (.ref pg), some (.int (grp (cellOf ns 0) : Nat)), some (.ref cd), none, none, none, none, none] ∧ CodeQ H H' ns rw q0 q1' q2' q3 lg cd refs, ⟨_, rfl, a, ns, 0, rfl, C.r.sm.seq hS, _, _, rfl, rfl, ⟨by decide, by decide⟩, _, _, rfl, rfl, (show (0 : Int) < 2 by decide), rfl, _, rfl, ?_⟩, ?_⟩
    · cases ht : decide (V.int (cellOf ns 0 / 4 % 2) = V.int 1) with
      | false => exact iteF ⟨v4, v7, v8, v10', pg', cd', refs', rfl, C⟩
      | true =>
        refine iteT ⟨_, rfl, cd', refs', ⟨"begin", [.inl (cnt ns : Nat), .inl (szn ns : Nat)]⟩, ⟨"next", []⟩, midOf (bdy ns), rfl, C.c, firm_body _ _ _ _ _ _, (code_sx (cnt ns) (szn ns) (bdy ns)).symm ▸ C.s, fun q H' ys hq s g st => ?_⟩
        have st' : StepsAt H' ys (codeV (cnt ns) (szn ns) (bdy ns)) := (code_sx (cnt ns) (szn ns) (bdy ns)) ▸ st
        exact ⟨v4, v7, v8, v10', pg', q, ys, rfl, C.r.same s, s _ _ C.l, g, st'⟩
    clear C
    rintro σ12 H12 ⟨v4'', v7'', v8'', v10'', pg'', cd'', refs'', rfl, C⟩
    -- lanes, dust
    refine ⟨_, rfl, a, ns, 0, rfl, C.r.sm.seq hS, _, _, rfl, rfl, ⟨by decide, by decide⟩, _, _, rfl, rfl, (show (0 : Int) < 16 by decide), _, _, rfl, rfl, ?_⟩
    refine ⟨fun σ' H' => ∃ (v4 v7 v8 v10 : Option V) (pg cd dq : Addr) (refs : List V) (dust : List Int), σ' = [some (.ref a), some (.int (cnt ns : Nat)), some (.int (siz ns : Nat)), some (.ref rw), v4, some (.int (bey ns)), some (.int (keptBy (cellOf ns 4))), v7, v8, some (.bl (trn ns)), v10, some (.ref lg), some (.ref pg), some (.int (grp (cellOf ns 0) : Nat)), some (.ref cd), some (.int (lan ns : Nat)), some (.ref dq), none, none, none] ∧ CodeQ H H' ns rw q0 q1' q2' q3 lg cd refs ∧ H' dq = some (.lst (dust.map V.int)) ∧ dust.length ≤ 1000, ?_, ?_⟩
    · have hd : cellOf ns 2 % 5 = (((cellOf ns 2 % 5).toNat : Nat) : Int) := by omega
      refine ⟨_, rfl, _, rfl, a, ns, 2, rfl, C.r.sm.seq hS, _, _, rfl, rfl, (show (0 : Int) < 5 by decide), a, ns, 7, (cellOf ns 2 % 5).toNat, (by rw [← hd]; rfl), C.r.sm.seq hS, by decide, by omega, by omega, fun dq H13 hdq s13 g13 => ?_⟩
      exact ⟨v4'', v7'', v8'', v10'', pg'', cd'', dq, refs'', someL ns 7 (cellOf ns 2 % 5).toNat, (by rw [← lan_int]; rfl), C.same s13, g13, by rw [someL_len]; omega⟩
    clear C
    rintro σ13 H13 ⟨w4, w7, w8, w10, pg3, cd3, dq, refs3, dust, rfl, C, hdq, hdl⟩
    clear hgo
    -- played by the law
    refine ⟨_, rfl, _, rfl, _, rfl, rw, q0, q1', q2', q3, rw0 ns, rw1 ns, rw2 ns, rw3 ns, keptBy (cellOf ns 4), trn ns, cnt ns, rfl, C.r.hw, C.r.h0, C.r.h1, C.r.h2, C.r.h3, someL_len _ _ _, rw1_len ns, rw2_len ns, by omega, rw1_in ns, fun p q os rv H14 s14 hq14 hp14 hq14' Y => ?_⟩
    refine ⟨p, _, rfl, seqt hp14, rfl, _, _, rfl, _, _, rfl, rfl, ?_⟩
    have C14 := C.same s14
    have hdq14 := s14 _ _ hdq
    clear C hdq s14 hq14 hp14
    have ll0 : ((rw0 ns).map V.int).length = cnt ns := by rw [List.length_map, someL_len]
    have ll1 : ((rw1 ns).map V.int).length = cnt ns := by rw [List.length_map, rw1_len]
    have ll2 : ((rw2 ns).map V.int).length = cnt ns := by rw [List.length_map, rw2_len]
    have ll3 : ((rw3 ns).map V.int).length = siz ns := by rw [List.length_map, someL_len]
    have ol : os.length = cnt ns := by
      obtain ⟨n, _, h, _⟩ := Y
      rw [h, someL_len]
    have lo : (os.map V.int).length = cnt ns := by rw [List.length_map, ol]
    -- played by the machine
    refine ⟨_, rfl, _, rfl, lg, _, rfl, .inl (seql C14.l), fun l2 hl2 => ?_⟩
    have C15 := C14.same (same_new (o := .lst ((lensL (cnt ns) (siz ns : Nat)).map V.int)) hl2)
    have R15 := C15.r
    refine ⟨_, rfl, rw, _, _, .ref q0, rfl, rfl, seql R15.hw, atI_nat (j := 0) rfl, _, rfl, rw, _, _, .ref q1', rfl, rfl, seql R15.hw, atI_nat (j := 1) rfl, q0, q1', _, _, rfl, rfl, R15.h0, R15.h1, small_le (by rw [ll0, ll1]; omega), fun m1 hm1 => ?_⟩
    have e1 := same_new (o := .lst ((rw0 ns).map V.int ++ (rw1 ns).map V.int)) hm1
    refine ⟨_, rfl, rw, _, _, .ref q2', rfl, rfl, seql (e1 _ _ R15.hw), atI_nat (j := 2) rfl, m1, q2', _, _, rfl, rfl, upd_same, e1 _ _ R15.h2, small_le (by rw [List.length_append, ll0, ll1, ll2]; omega), fun m2 hm2 => ?_⟩
    have e2 := e1.trans (same_new (o := .lst ((rw0 ns).map V.int ++ (rw1 ns).map V.int ++ (rw2 ns).map V.int)) hm2)
    refine ⟨_, rfl, rw, _, _, .ref q3, rfl, rfl, seql (e2 _ _ R15.hw), atI_nat (j := 3) rfl, m2, q3, _, _, rfl, rfl, upd_same, e2 _ _ R15.h3, small_le (by rw [List.length_append, List.length_append, ll0, ll1, ll2, ll3]; omega), fun m3 hm3 => ?_⟩
    have e3 := e2.trans (same_new (o := .lst ((rw0 ns).map V.int ++ (rw1 ns).map V.int ++ (rw2 ns).map V.int ++ (rw3 ns).map V.int)) hm3)
    refine ⟨_, rfl, _, rfl, (by show 0 ≤ sizeLine; decide), fun pk hpk => ?_⟩
    have e4 := same_new (o := .lst []) hpk
    have C19 := C15.same (e3.trans e4)
    have hcat : (rw0 ns).map V.int ++ (rw1 ns).map V.int ++ (rw2 ns).map V.int ++ (rw3 ns).map V.int = (rw0 ns ++ rw1 ns ++ rw2 ns ++ rw3 ns).map V.int := by rw [List.map_append, List.map_append, List.map_append]
    have hlens : (D0 (rw0 ns) (rw1 ns) (rw2 ns) (rw3 ns) (cnt ns)).lengths = lensL (cnt ns) (siz ns : Nat) := by
      show [((cnt ns : Nat) : Int), (cnt ns : Nat), (cnt ns : Nat), (((rw3 ns).length : Nat) : Int)] = _
      rw [someL_len]
    have hl2' := e4 _ _ (e3 _ _ (upd_same (H := H14) (a := l2) (o := .lst ((lensL (cnt ns) (siz ns : Nat)).map V.int))))
    have hm3' := e4 m3 (.lst ((rw0 ns).map V.int ++ (rw1 ns).map V.int ++ (rw2 ns).map V.int ++ (rw3 ns).map V.int)) upd_same
    have hdq' := e4 _ _ (e3 _ _ (same_new hl2 _ _ hdq14))
    refine ⟨cd3, l2, m3, dq, pk, refs3, D0 (rw0 ns) (rw1 ns) (rw2 ns) (rw3 ns) (cnt ns), szn ns, bdy ns, lan ns, dust, [], rfl, C19.c, code_at C19.s, body_ok (someL_len _ _ _) (rw1_len ns) (rw2_len ns) (rw1_in ns) _ _ _ (szn_in ns) (by omega) (by omega),
      seql (by rw [hlens]; exact hl2'), seql (by show _ = some (HO.lst ((rw0 ns ++ rw1 ns ++ rw2 ns ++ rw3 ns).map V.int)); rw [← hcat]; exact hm3'), seql hdq', seql upd_same, nn hl2', nn hm3', nn hdq', nn upd_same, (lan_in ns).1, (lan_in ns).2, hdl, fun pr H20 c' t' rv' cells s20 hpr hc' O => ?_⟩
    obtain ⟨ec, E⟩ := same_end (someL_len _ _ _) (fun e he => val_law (someL_len ns 1 (cnt ns)) (rw1_len ns) (rw2_len ns) (keptBy (cellOf ns 4)) (trn ns) (szn ns) he) O Y
    subst ec
    have R20 := (C19.same s20).r
    have sY : Same H14 H20 := ((same_new hl2).trans (e3.trans e4)).trans s20
    have hos := sY _ _ hq14'
    -- told
    refine ⟨_, rfl, _, rfl, _, rfl, rw, _, _, .ref q1', rfl, rfl, seql R20.hw, atI_nat (j := 1) rfl, q, q1', _, _, rfl, rfl, hos, R20.h1, small_le (by rw [lo, ll1]; omega), fun m4 hm4 => ?_⟩
    have f1 := same_new (o := .lst (os.map V.int ++ (rw1 ns).map V.int)) hm4
    refine ⟨_, rfl, rw, _, _, .ref q2', rfl, rfl, seql (f1 _ _ R20.hw), atI_nat (j := 2) rfl, m4, q2', _, _, rfl, rfl, upd_same, f1 _ _ R20.h2, small_le (by rw [List.length_append, lo, ll1, ll2]; omega), fun m5 hm5 => ?_⟩
    have f2 := f1.trans (same_new (o := .lst (os.map V.int ++ (rw1 ns).map V.int ++ (rw2 ns).map V.int)) hm5)
    refine ⟨_, rfl, rw, _, _, .ref q3, rfl, rfl, seql (f2 _ _ R20.hw), atI_nat (j := 3) rfl, m5, q3, _, _, rfl, rfl, upd_same, f2 _ _ R20.h3, small_le (by rw [List.length_append, List.length_append, lo, ll1, ll2, ll3]; omega), fun m6 hm6 => ?_⟩
    have f3 := f2.trans (same_new (o := .lst (os.map V.int ++ (rw1 ns).map V.int ++ (rw2 ns).map V.int ++ (rw3 ns).map V.int)) hm6)
    have hcat2 : os.map V.int ++ (rw1 ns).map V.int ++ (rw2 ns).map V.int ++ (rw3 ns).map V.int = (os ++ rw1 ns ++ rw2 ns ++ rw3 ns).map V.int := by rw [List.map_append, List.map_append, List.map_append]
    refine ⟨_, rfl, pr, c', t', m6, rv', rv, os ++ rw1 ns ++ rw2 ns ++ rw3 ns, rfl, f3 _ _ hpr, f3 _ _ hc', by rw [← hcat2]; exact upd_same, ?_, k _⟩
    rcases E with E | ⟨r, rr, n, f, h1, h2, h3, h4, e, h5⟩
    · exact .inl E
    · exact .inr ⟨r, rr, n, f, h1, h2, f3 _ _ h3, f3 _ _ (sY _ _ h4), lawE_str h5⟩
end
end Rb
set_option Elab.async false
set_option linter.all false
set_option maxRecDepth 100000
set_option maxHeartbeats 0
namespace Rb
open PySem PySem.Spec PyProof.Rows L2
theorem law_facts {P : Program} {w : World} {K : PySem.W.Frag} {h : Heap} {mg : Str → Option Value} (X : K.In h) (G : h.Ns mainGlobals mg) (c : Says K) :
    ∃ fd : FuncData, (∀ (s : Shared) (v : Value), BindsTo s fd ⟨[v], []⟩ [("_law_script", v)]) ∧ ∀ base : Heap, FnOk P w K mg base CX0 60 (He.fAd K ("law", none)) fd ["_law_script"] (spLaw K) := by
  have T : Tx K mg := ⟨⟨h, X, G⟩, ⟨c.f, c.e, c.n, c.w⟩⟩
  obtain ⟨fd, F⟩ := T.d_law
  have b := FunD.bindsA (ps := ["_law_script"]) F fun _ _ _ _ _ _ us hl => match us, hl with | [_], _ => rfl
  exact ⟨fd, fun s v => b s [v] rfl, fun base => ok_law T F⟩
end Rb
open PySem PySem.W PySem.Calls PyProof.Rows
theorem PySem.Challenge.cw_rowbreadth_k60_whole_least_element_holds : PySem.Challenge.rw_rowbreadth_k60_whole_least_element.Holds := by
  w_on; o_law
  refine HandSHeadRun.head_any (r := Rb.R) (q := Rb.qv) (H := Rb.hk) (ob := Rb.ob) (M := 10200) (loose := Rb.names) (d := HandSHeadRun.topDef Rb.R.prog 134) (kwd := []) Rb.ob_eq
    (by kernel_rfl) (fun s => by kernel_rfl) Rb.run (by kernel_rfl) (by kernel_rfl) (by kernel_rfl) (by rfl) (by first | assumption | decide +kernel) (by decide +kernel) ⟨rfl, rfl, rfl, rfl, rfl, by decide +kernel⟩ ?hw ?hc
  case hw => w_witness2
  case hc =>
    refine L2.walk_ofE (l := PySem.Challenge.rw_rowbreadth_k60_whole_least_element) (n := 63) (k := 60) (x := "_law_script") (CX := L2.CX0) rfl (by decide) (by kernel_rfl) ⟨rfl, by decide, by decide⟩ ?F (fun _ _ _ _ z => z)
    intro w mg fa h Y G hmg0
    obtain ⟨K, KX, c⟩ := Y
    have hmg : mg ("law" : PySem.Str) = some (.ref fa) := by
      have e : (HandSHeadRun.topDef Rb.R.prog 134).name = ("law" : PySem.Str) := by kernel_rfl
      rw [← e]
      exact hmg0
    have T : Rb.Tx K mg := ⟨⟨h, KX, G⟩, ⟨c.f, c.e, c.n, c.w⟩⟩
    have e := hmg.symm.trans T.g_law
    cases e
    obtain ⟨fd, hb, hF⟩ := Rb.law_facts (P := (PySem.Challenge.rw_rowbreadth_k60_whole_least_element).prog) (w := w) KX G c
    exact ⟨K, fd, Rb.spLaw K, KX, hb, fun H a ns hl _ hS => ⟨a, ns, rfl, hS, hl, fun _ => rfl⟩, fun base _ _ => hF base⟩
