import PyProof.Rows.All
import Wide.All
import OpenK.AllK
import Wide.FinOn
import KE.KStateDown
import Lean
import HandS.ForMost
import HandS.Defaults
import HandS.Head0
import HandS.Head1
import HandS.Head2
import HandS.HeadEnd
import HandS.HeadHook1
import HandS.HeadHook2
import HandS.HeadHook3
import HandS.HeadHook4
import HandS.TupAny
import HandS.TupMul
import HandS.Zip
import HandS.IsInst
import HandS.Strs
import HandS.SetFor
import HandS.SortInts
import HandS.Style
import HandS.Walk
import KE.GoesMore
import KE.GoesEnum
import HandS.Conv
import HandS.CallLocal
import PySem.Challenge.RW_onepicture_k12_whole_pictures_at_once
set_option Elab.async false
set_option linter.all false
set_option maxRecDepth 100000
namespace OP
open PySem PySem.Spec PyProof.Rows L2
def topS (i : Nat) : Stmt := PySem.Challenge.pw_onepicture_k12_whole_pictures_at_once.main.body.getD i (.Pass ⟨0, 0, 0, 0⟩)
end OP
set_option Elab.async false
set_option linter.all false
set_option maxRecDepth 100000
set_option maxHeartbeats 0
/-! HeadE: the head -/
namespace OPH
open PySem PySem.Spec PyProof.Rows L2
def lo0 : List PySem.Str := ["PictureError", "BadPlay", "NoHand", "NoStep", "NoWeaving", "NoCame", "NoTold", "is_integer", "is_within", "is_below", "is_sized", "is_pair", "is_listed", "replaced", "MOST_HANDS", "MOST_DEEDS", "MOST_VALUE", "MOST_ROUNDS", "MOST_THING", "SWEEP", "TWICE", "BORROW", "LEVELS", "NAMES", "NEAR", "CHAIN", "MANNERS", "PUT", "SEE", "is_deed"]
def lo1 : List PySem.Str := ["is_script", "is_value", "is_near_value", "is_lot", "is_row_of", "are_inputs", "Play", "is_hand", "check_hand", "LOOK_levels", "level_cell", "level_state", "level_next", "level_after", "LOOK_manners", "FIRST_CELL", "fresh", "manner_cell", "manner_state", "is_put_next", "manner_next", "numbers_of", "picture_of", "lent", "result_of", "after_sweep", "manner_after", "top_cell", "top_state", "top_next"]
def lo2 : List PySem.Str := ["wish_by", "after_names", "after_near", "after_chain", "top_after", "cell_of", "state_of", "next_of", "after_of", "begun", "first_standing", "movers", "can_step", "after_step", "check_step", "step", "next_step", "standings_of", "run", "run_out", "MOST_NUMBER", "is_came", "is_number_and_value", "is_picture", "is_at_once", "is_item", "most_told", "is_told", "flat", "is_older"]
def lo3 : List PySem.Str := ["is_within_lot", "are_chain", "is_of_others", "manner_fault", "hands_of", "is_strange", "has_more", "level_fault", "name_fault", "near_fault", "chain_fault", "raw_fault", "fault", "_law_hand", "_law_draw", "_law_some", "_law_shuffled", "_law_is", "_law_inputs", "_law_begin", "_law_next", "_law_level", "_law_name", "_law_near", "_law_lot", "_law_moved", "_law_left", "_law_woven", "_law_whole", "_law_came"]
def lo4 : List PySem.Str := ["_law_has", "_law_are_chain", "_law_all", "_law_level_fault", "_law_near_fault", "_law_lot_fault", "_law_fault", "_law_led_right"]
def loose : List PySem.Str := lo0 ++ (lo1 ++ (lo2 ++ (lo3 ++ (lo4))))
def d_is_integer : He.DefD := ⟨("is_integer", none), "is_integer", "is_integer", defArgs (OP.topS 9), defBody (OP.topS 9), defScope (OP.topS 9), [], []⟩
def d_is_within : He.DefD := ⟨("is_within", none), "is_within", "is_within", defArgs (OP.topS 10), defBody (OP.topS 10), defScope (OP.topS 10), [], []⟩
def d_is_below : He.DefD := ⟨("is_below", none), "is_below", "is_below", defArgs (OP.topS 11), defBody (OP.topS 11), defScope (OP.topS 11), [], []⟩
def d_is_sized : He.DefD := ⟨("is_sized", none), "is_sized", "is_sized", defArgs (OP.topS 12), defBody (OP.topS 12), defScope (OP.topS 12), [], []⟩
def d_is_pair : He.DefD := ⟨("is_pair", none), "is_pair", "is_pair", defArgs (OP.topS 13), defBody (OP.topS 13), defScope (OP.topS 13), [], []⟩
def d_is_listed : He.DefD := ⟨("is_listed", none), "is_listed", "is_listed", defArgs (OP.topS 14), defBody (OP.topS 14), defScope (OP.topS 14), [], []⟩
def d_replaced : He.DefD := ⟨("replaced", none), "replaced", "replaced", defArgs (OP.topS 15), defBody (OP.topS 15), defScope (OP.topS 15), [], []⟩
def d_is_value : He.DefD := ⟨("is_value", none), "is_value", "is_value", defArgs (OP.topS 34), defBody (OP.topS 34), defScope (OP.topS 34), [], []⟩
def d_is_row_of : He.DefD := ⟨("is_row_of", none), "is_row_of", "is_row_of", defArgs (OP.topS 37), defBody (OP.topS 37), defScope (OP.topS 37), [], []⟩
def d_are_inputs : He.DefD := ⟨("are_inputs", none), "are_inputs", "are_inputs", defArgs (OP.topS 38), defBody (OP.topS 38), defScope (OP.topS 38), [], []⟩
def d_is_hand : He.DefD := ⟨("is_hand", none), "is_hand", "is_hand", defArgs (OP.topS 40), defBody (OP.topS 40), defScope (OP.topS 40), [], []⟩
def d_check_hand : He.DefD := ⟨("check_hand", none), "check_hand", "check_hand", defArgs (OP.topS 41), defBody (OP.topS 41), defScope (OP.topS 41), [], []⟩
def d_level_cell : He.DefD := ⟨("level_cell", none), "level_cell", "level_cell", defArgs (OP.topS 44), defBody (OP.topS 44), defScope (OP.topS 44), [], []⟩
def d_level_state : He.DefD := ⟨("level_state", none), "level_state", "level_state", defArgs (OP.topS 45), defBody (OP.topS 45), defScope (OP.topS 45), [], []⟩
def d_level_next : He.DefD := ⟨("level_next", none), "level_next", "level_next", defArgs (OP.topS 46), defBody (OP.topS 46), defScope (OP.topS 46), [], []⟩
def d_level_after : He.DefD := ⟨("level_after", none), "level_after", "level_after", defArgs (OP.topS 47), defBody (OP.topS 47), defScope (OP.topS 47), [], []⟩
def d_cell_of : He.DefD := ⟨("cell_of", none), "cell_of", "cell_of", defArgs (OP.topS 72), defBody (OP.topS 72), defScope (OP.topS 72), [], []⟩
def d_state_of : He.DefD := ⟨("state_of", none), "state_of", "state_of", defArgs (OP.topS 73), defBody (OP.topS 73), defScope (OP.topS 73), [], []⟩
def d_next_of : He.DefD := ⟨("next_of", none), "next_of", "next_of", defArgs (OP.topS 74), defBody (OP.topS 74), defScope (OP.topS 74), [], []⟩
def d_after_of : He.DefD := ⟨("after_of", none), "after_of", "after_of", defArgs (OP.topS 75), defBody (OP.topS 75), defScope (OP.topS 75), [], []⟩
def d_begun : He.DefD := ⟨("begun", none), "begun", "begun", defArgs (OP.topS 76), defBody (OP.topS 76), defScope (OP.topS 76), [], []⟩
def d_first_standing : He.DefD := ⟨("first_standing", none), "first_standing", "first_standing", defArgs (OP.topS 77), defBody (OP.topS 77), defScope (OP.topS 77), [], []⟩
def d_movers : He.DefD := ⟨("movers", none), "movers", "movers", defArgs (OP.topS 78), defBody (OP.topS 78), defScope (OP.topS 78), [], []⟩
def d_can_step : He.DefD := ⟨("can_step", none), "can_step", "can_step", defArgs (OP.topS 79), defBody (OP.topS 79), defScope (OP.topS 79), [], []⟩
def d_after_step : He.DefD := ⟨("after_step", none), "after_step", "after_step", defArgs (OP.topS 80), defBody (OP.topS 80), defScope (OP.topS 80), [], []⟩
def d_check_step : He.DefD := ⟨("check_step", none), "check_step", "check_step", defArgs (OP.topS 81), defBody (OP.topS 81), defScope (OP.topS 81), [], []⟩
def d_step : He.DefD := ⟨("step", none), "step", "step", defArgs (OP.topS 82), defBody (OP.topS 82), defScope (OP.topS 82), [], []⟩
def d_next_step : He.DefD := ⟨("next_step", none), "next_step", "next_step", defArgs (OP.topS 83), defBody (OP.topS 83), defScope (OP.topS 83), [], []⟩
def d_standings_of : He.DefD := ⟨("standings_of", none), "standings_of", "standings_of", defArgs (OP.topS 84), defBody (OP.topS 84), defScope (OP.topS 84), [], []⟩
def d_run : He.DefD := ⟨("run", none), "run", "run", defArgs (OP.topS 85), defBody (OP.topS 85), defScope (OP.topS 85), [], []⟩
def d_run_out : He.DefD := ⟨("run_out", none), "run_out", "run_out", defArgs (OP.topS 86), defBody (OP.topS 86), defScope (OP.topS 86), [], []⟩
def d_is_came : He.DefD := ⟨("is_came", none), "is_came", "is_came", defArgs (OP.topS 89), defBody (OP.topS 89), defScope (OP.topS 89), [], []⟩
def d_is_number_and_value : He.DefD := ⟨("is_number_and_value", none), "is_number_and_value", "is_number_and_value", defArgs (OP.topS 90), defBody (OP.topS 90), defScope (OP.topS 90), [], []⟩
def d_is_at_once : He.DefD := ⟨("is_at_once", none), "is_at_once", "is_at_once", defArgs (OP.topS 92), defBody (OP.topS 92), defScope (OP.topS 92), [], []⟩
def d_is_item : He.DefD := ⟨("is_item", none), "is_item", "is_item", defArgs (OP.topS 93), defBody (OP.topS 93), defScope (OP.topS 93), [], []⟩
def d_most_told : He.DefD := ⟨("most_told", none), "most_told", "most_told", defArgs (OP.topS 94), defBody (OP.topS 94), defScope (OP.topS 94), [], []⟩
def d_is_told : He.DefD := ⟨("is_told", none), "is_told", "is_told", defArgs (OP.topS 95), defBody (OP.topS 95), defScope (OP.topS 95), [], []⟩
def d_flat : He.DefD := ⟨("flat", none), "flat", "flat", defArgs (OP.topS 96), defBody (OP.topS 96), defScope (OP.topS 96), [], []⟩
def d_is_within_lot : He.DefD := ⟨("is_within_lot", none), "is_within_lot", "is_within_lot", defArgs (OP.topS 98), defBody (OP.topS 98), defScope (OP.topS 98), [], []⟩
def d_are_chain : He.DefD := ⟨("are_chain", none), "are_chain", "are_chain", defArgs (OP.topS 99), defBody (OP.topS 99), defScope (OP.topS 99), [], []⟩
def d_hands_of : He.DefD := ⟨("hands_of", none), "hands_of", "hands_of", defArgs (OP.topS 102), defBody (OP.topS 102), defScope (OP.topS 102), [], []⟩
def d_is_strange : He.DefD := ⟨("is_strange", none), "is_strange", "is_strange", defArgs (OP.topS 103), defBody (OP.topS 103), defScope (OP.topS 103), [], []⟩
def d_has_more : He.DefD := ⟨("has_more", none), "has_more", "has_more", defArgs (OP.topS 104), defBody (OP.topS 104), defScope (OP.topS 104), [], []⟩
def d_level_fault : He.DefD := ⟨("level_fault", none), "level_fault", "level_fault", defArgs (OP.topS 105), defBody (OP.topS 105), defScope (OP.topS 105), [], []⟩
def d_raw_fault : He.DefD := ⟨("raw_fault", none), "raw_fault", "raw_fault", defArgs (OP.topS 109), defBody (OP.topS 109), defScope (OP.topS 109), [], []⟩
def d_fault : He.DefD := ⟨("fault", none), "fault", "fault", defArgs (OP.topS 110), defBody (OP.topS 110), defScope (OP.topS 110), [], []⟩
def d__law_hand : He.DefD := ⟨("_law_hand", none), "_law_hand", "_law_hand", defArgs (OP.topS 112), defBody (OP.topS 112), defScope (OP.topS 112), [], []⟩
def d__law_draw : He.DefD := ⟨("_law_draw", none), "_law_draw", "_law_draw", defArgs (OP.topS 113), defBody (OP.topS 113), defScope (OP.topS 113), [], []⟩
def d__law_some : He.DefD := ⟨("_law_some", none), "_law_some", "_law_some", defArgs (OP.topS 114), defBody (OP.topS 114), defScope (OP.topS 114), [], []⟩
def d__law_is : He.DefD := ⟨("_law_is", none), "_law_is", "_law_is", defArgs (OP.topS 116), defBody (OP.topS 116), defScope (OP.topS 116), [], []⟩
def d__law_inputs : He.DefD := ⟨("_law_inputs", none), "_law_inputs", "_law_inputs", defArgs (OP.topS 117), defBody (OP.topS 117), defScope (OP.topS 117), [], []⟩
def d__law_begin : He.DefD := ⟨("_law_begin", none), "_law_begin", "_law_begin", defArgs (OP.topS 118), defBody (OP.topS 118), defScope (OP.topS 118), [], []⟩
def d__law_next : He.DefD := ⟨("_law_next", none), "_law_next", "_law_next", defArgs (OP.topS 119), defBody (OP.topS 119), defScope (OP.topS 119), [], []⟩
def d__law_level : He.DefD := ⟨("_law_level", none), "_law_level", "_law_level", defArgs (OP.topS 120), defBody (OP.topS 120), defScope (OP.topS 120), [], []⟩
def d__law_moved : He.DefD := ⟨("_law_moved", none), "_law_moved", "_law_moved", defArgs (OP.topS 124), defBody (OP.topS 124), defScope (OP.topS 124), [], []⟩
def d__law_left : He.DefD := ⟨("_law_left", none), "_law_left", "_law_left", defArgs (OP.topS 125), defBody (OP.topS 125), defScope (OP.topS 125), [], []⟩
def d__law_woven : He.DefD := ⟨("_law_woven", none), "_law_woven", "_law_woven", defArgs (OP.topS 126), defBody (OP.topS 126), defScope (OP.topS 126), [], []⟩
def d__law_whole : He.DefD := ⟨("_law_whole", none), "_law_whole", "_law_whole", defArgs (OP.topS 127), defBody (OP.topS 127), defScope (OP.topS 127), [], []⟩
def d__law_came : He.DefD := ⟨("_law_came", none), "_law_came", "_law_came", defArgs (OP.topS 128), defBody (OP.topS 128), defScope (OP.topS 128), [], []⟩
def d__law_has : He.DefD := ⟨("_law_has", none), "_law_has", "_law_has", defArgs (OP.topS 129), defBody (OP.topS 129), defScope (OP.topS 129), [], []⟩
def d__law_are_chain : He.DefD := ⟨("_law_are_chain", none), "_law_are_chain", "_law_are_chain", defArgs (OP.topS 130), defBody (OP.topS 130), defScope (OP.topS 130), [], []⟩
def d__law_all : He.DefD := ⟨("_law_all", none), "_law_all", "_law_all", defArgs (OP.topS 131), defBody (OP.topS 131), defScope (OP.topS 131), [], []⟩
def d__law_level_fault : He.DefD := ⟨("_law_level_fault", none), "_law_level_fault", "_law_level_fault", defArgs (OP.topS 132), defBody (OP.topS 132), defScope (OP.topS 132), [], []⟩
def d__law_fault : He.DefD := ⟨("_law_fault", none), "_law_fault", "_law_fault", defArgs (OP.topS 135), defBody (OP.topS 135), defScope (OP.topS 135), [], []⟩
def d__law_led_right : He.DefD := ⟨("_law_led_right", none), "_law_led_right", "_law_led_right", defArgs (OP.topS 136), defBody (OP.topS 136), defScope (OP.topS 136), [], []⟩
def d_law : He.DefD := ⟨("law", none), "law", "law", defArgs (OP.topS 137), defBody (OP.topS 137), defScope (OP.topS 137), [], []⟩
def d_init : He.DefD := ⟨("Play", some "__init__"), "__init__", "Play.__init__", defArgs (inClass (OP.topS 39) 0), defBody (inClass (OP.topS 39) 0), defScope (inClass (OP.topS 39) 0), [], []⟩
def fn0 : List He.DefD := [d_init, d_is_integer, d_is_within, d_is_below, d_is_sized, d_is_pair, d_is_listed, d_replaced, d_is_value, d_is_row_of, d_are_inputs, d_is_hand, d_check_hand, d_level_cell, d_level_state, d_level_next, d_level_after, d_cell_of, d_state_of, d_next_of]
def fn1 : List He.DefD := [d_after_of, d_begun, d_first_standing, d_movers, d_can_step, d_after_step, d_check_step, d_step, d_next_step, d_standings_of, d_run, d_run_out, d_is_came, d_is_number_and_value, d_is_at_once, d_is_item, d_most_told, d_is_told, d_flat, d_is_within_lot]
def fn2 : List He.DefD := [d_are_chain, d_hands_of, d_is_strange, d_has_more, d_level_fault, d_raw_fault, d_fault, d__law_hand, d__law_draw, d__law_some, d__law_is, d__law_inputs, d__law_begin, d__law_next, d__law_level, d__law_moved, d__law_left, d__law_woven, d__law_whole, d__law_came]
def fn3 : List He.DefD := [d__law_has, d__law_are_chain, d__law_all, d__law_level_fault, d__law_fault, d__law_led_right, d_law]
def fn : List He.DefD := fn0 ++ (fn1 ++ (fn2 ++ (fn3)))
def fa0 : List He.Fa := [.glo "is_integer", .glo "is_within", .glo "is_below", .glo "is_sized", .glo "is_pair", .glo "is_listed", .glo "replaced", .glo "is_value", .glo "is_row_of", .glo "are_inputs", .glo "is_hand", .glo "check_hand", .glo "level_cell", .glo "level_state", .glo "level_next", .glo "level_after", .glo "cell_of", .glo "state_of", .glo "next_of", .glo "after_of", .glo "begun", .glo "first_standing", .glo "movers", .glo "can_step", .glo "after_step", .glo "check_step", .glo "step", .glo "next_step", .glo "standings_of", .glo "run"]
def fa1 : List He.Fa := [.glo "run_out", .glo "is_came", .glo "is_number_and_value", .glo "is_at_once", .glo "is_item", .glo "most_told", .glo "is_told", .glo "flat", .glo "is_within_lot", .glo "are_chain", .glo "hands_of", .glo "is_strange", .glo "has_more", .glo "level_fault", .glo "raw_fault", .glo "fault", .glo "_law_hand", .glo "_law_draw", .glo "_law_some", .glo "_law_is", .glo "_law_inputs", .glo "_law_begin", .glo "_law_next", .glo "_law_level", .glo "_law_moved", .glo "_law_left", .glo "_law_woven", .glo "_law_whole", .glo "_law_came", .glo "_law_has"]
def fa2 : List He.Fa := [.glo "_law_are_chain", .glo "_law_all", .glo "_law_level_fault", .glo "_law_fault", .glo "_law_led_right", .glo "law", .free "len", .free "all", .free "any", .free "tuple", .free "list", .free "range", .free "enumerate", .free "zip", .free "isinstance", .free "int", .free "abs", .free "sorted", .free "set", .free "str", .free "bool", .free "dict", .glo "Play", .cls "Play", .mkr "Play", .noat "Play" "kind", .noat "Play" "inputs", .noat "Play" "rows", .int "MOST_HANDS" 5, .int "MOST_DEEDS" 6]
def fa3 : List He.Fa := [.int "MOST_VALUE" 1000, .int "MOST_ROUNDS" 6, .int "MOST_THING" 20, .str "SWEEP" "sweep", .str "TWICE" "twice", .str "BORROW" "borrow", .str "LEVELS" "levels", .str "NAMES" "names", .str "NEAR" "near", .str "CHAIN" "chain", .str "PUT" "put", .str "SEE" "see", .str "LOOK_levels" "look", .str "LOOK_manners" "look", .int "MOST_NUMBER" 100000000000000000000, .glo "MANNERS"]
def fa : List He.Fa := fa0 ++ (fa1 ++ (fa2 ++ (fa3)))
/-! ### what is looked at behind the top: the module's names, the defs' codes, the class's own names -/
def valsOf (g : Addr → Option Obj) (ns : Addr) : List Addr := match g ns with
  | some ⟨_, _, .dict es _, _⟩ => es.toList.flatMap fun e => He.refV e.val
  | _ => []
def codesOf (g : Addr → Option Obj) (as : List Addr) : List Addr := as.flatMap fun a => match g a with
  | some ⟨_, _, .func fd, _⟩ => He.refV fd.code
  | _ => []
def nsOf (g : Addr → Option Obj) (x : Str) : List Addr := match g mainGlobals with
  | some ⟨_, _, .dict es _, _⟩ => (match es.toList.find? (·.key.isStr x) with
    | some e => (match e.val with
      | .ref C => (match g C with
        | some ⟨_, _, .cls cd, _⟩ => [cd.ns]
        | _ => [])
      | _ => [])
    | none => [])
  | _ => []
def asP (g : Addr → Option Obj) : List Addr :=
  let vs := valsOf g mainGlobals
  let ns := nsOf g "Play"
  let ms := ns.flatMap (valsOf g)
  mainGlobals :: (vs ++ (codesOf g vs ++ (ns ++ (ms ++ codesOf g ms))))
abbrev AlP : Type := He.AlD × Bool
def obsP (fa : List He.Fa) (fn : List He.DefD) (ex : PySem.W.Frag → Bool) (g : Addr → Option Obj) : AlP :=
  let K := He.frG g (asP g)
  (He.obsD fa fn K, ex K)
def hookP (fa : List He.Fa) (fn : List He.DefD) (ex : PySem.W.Frag → Bool) : PySem.W.Hook where
  α := AlP
  obs := fun s => obsP fa fn ex s.heap.get?
  val := fun _ => (He.valD fn, true)
  says := fun _ h => ∃ K : PySem.W.Frag, K.In h ∧ He.SaysD fa fn K ∧ ex K = true
  of := fun _ s e => ⟨He.frG s.heap.get? (asP s.heap.get?), He.frG_in, congrArg Prod.fst e, congrArg Prod.snd e⟩
  keeps := fun _ _ _ ⟨K, hK, c⟩ k => ⟨K, PySem.W.Frag.In.keeps hK k, c⟩
theorem obsP_eq {fa : List He.Fa} {fn : List He.DefD} {ex : PySem.W.Frag → Bool} {g : Addr → Option Obj} {s : Shared} (h : ∀ a, g a = s.heap.get? a) : obsP fa fn ex g = (hookP fa fn ex).obs s := by
  have e : g = s.heap.get? := funext h
  rw [e] <;> rfl
abbrev R : PySem.W.OpenRow := PySem.W.OpenLaw.row PySem.Challenge.rw_onepicture_k12_whole_pictures_at_once
def exB (K : PySem.W.Frag) : Bool := He.tupB K "MANNERS" [.str "sweep", .str "twice", .str "borrow"]
def faT : List He.Fa := fa
def fnT : List He.DefD := fn
abbrev hk : PySem.W.Hook := hookP faT fnT exB
def ob (s : PySem.W.SharedT) : AlP := obsP faT fnT exB (HandSHeadRun.getT s)
theorem run (w : World) : HandSHeadRun.RunEq R (PySem.W.view R.prog [137]) hk ob 8000 loose w := by
  intro os
  kernel_rfl
end OPH

set_option Elab.async false
set_option linter.all false
set_option maxRecDepth 100000
set_option maxHeartbeats 4000000
/-! OpA: plain data D, what represents it in the abstract heap, expressions that evaluate to data -/
namespace OP
open PySem PySem.Spec PyProof.Rows L2
/-! ### data -/
inductive D where
  | non | bl (b : Bool) | int (i : Int) | str (s : Str) | tup (ds : List D) | play (rows : List Int) | raw (v : V)
inductive W where
  | d (x : D) | l (xs : List D) | ll (xss : List (List D)) | hand (ns : List Int) (i lf sd k : Int)
/-- all but lists is kept -/
def NotL : HO → Prop
  | .lst _ => False
  | _ => True
def Kt (H H' : Hp) : Prop := ∀ a o, NotL o → H a = some o → H' a = some o
theorem Kt.of {H H' : Hp} (h : Same H H') : Kt H H' := fun a o _ e => h a o e
theorem Kt.refl (H : Hp) : Kt H H := fun _ _ _ e => e
theorem Kt.trans {H H1 H2 : Hp} (a : Kt H H1) (b : Kt H1 H2) : Kt H H2 := fun c o n e => b c o n (a c o n e)
theorem Kt.upd {H : Hp} {l : Addr} {xs : List V} {o : HO} (h : H l = some (.lst xs)) : Kt H (upd H l o) := fun a u n e => by
  have ne : a ≠ l := by
    intro z
    subst z
    rw [h] at e
    cases e
    exact n
  rw [upd_ne ne]
  exact e
theorem Kt.new {H : Hp} {l : Addr} {o : HO} (h : H l = none) : Kt H (L2.upd H l o) := fun a u _ e => by
  rw [upd_ne (ne_of_none e h)]
  exact e
theorem same_new {H : Hp} {l : Addr} {o : HO} (h : H l = none) : Same H (upd H l o) := fun a u e => by
  rw [upd_ne (ne_of_none e h)]
  exact e
theorem same_mut {H H' : Hp} {l : Addr} {o : HO} (s : Same H H') (h : H l = none) : Same H (upd H' l o) := fun a u e => by
  rw [upd_ne (ne_of_none e h)]
  exact s a u e
theorem Kt.tup {K : PySem.W.Frag} {H H' : Hp} {a : Addr} {xs : List V} (k : Kt H H') (h : SqT K H a xs) : SqT K H' a xs := by
  rcases h with (h | ⟨o, h⟩) | h
  · exact .inl (.inl (k _ _ trivial h))
  · exact .inl (.inr ⟨o, k _ _ trivial h⟩)
  · exact .inr h
/-! ### what represents it -/
mutual
inductive Rp (K : PySem.W.Frag) (C : Addr) (H : Hp) : V → D → Prop
  | non : Rp K C H .non .non
  | bl (b : Bool) : Rp K C H (.bl b) (.bl b)
  | int (i : Int) : Rp K C H (.int i) (.int i)
  | str (s : Str) : Rp K C H (.str s) (.str s)
  | tup {a : Addr} {xs : List V} {ds : List D} : SqT K H a xs → Rps K C H xs ds → Rp K C H (.ref a) (.tup ds)
  | play {a dx r : Addr} {rows : List Int} : H a = some (.ins C dx [("kind", .str "levels"), ("inputs", .ref r), ("rows", .ref r)]) → SqT K H r (rows.map V.int) → Rp K C H (.ref a) (.play rows)
  | raw (v : V) : Rp K C H v (.raw v)
inductive Rps (K : PySem.W.Frag) (C : Addr) (H : Hp) : List V → List D → Prop
  | nil : Rps K C H [] []
  | cons {v : V} {vs : List V} {d : D} {ds : List D} : Rp K C H v d → Rps K C H vs ds → Rps K C H (v :: vs) (d :: ds)
end
section
variable {K : PySem.W.Frag} {C : Addr} {H H' : Hp}
mutual
theorem Rp.mono (k : Kt H H') : ∀ {v : V} {d : D}, Rp K C H v d → Rp K C H' v d
  | _, _, .non => .non
  | _, _, .bl b => .bl b
  | _, _, .int i => .int i
  | _, _, .str s => .str s
  | _, _, .tup h r => .tup (k.tup h) (Rps.mono k r)
  | _, _, .play h r => .play (k _ _ trivial h) (k.tup r)
  | _, _, .raw a => .raw a
theorem Rps.mono (k : Kt H H') : ∀ {vs : List V} {ds : List D}, Rps K C H vs ds → Rps K C H' vs ds
  | _, _, .nil => .nil
  | _, _, .cons r t => .cons (Rp.mono k r) (Rps.mono k t)
end
theorem Rps.length : ∀ {vs : List V} {ds : List D}, Rps K C H vs ds → vs.length = ds.length
  | _, _, .nil => rfl
  | _, _, .cons _ t => congrArg Nat.succ (Rps.length t)
theorem Rps.app : ∀ {vs us : List V} {ds es : List D}, Rps K C H vs ds → Rps K C H us es → Rps K C H (vs ++ us) (ds ++ es)
  | _, _, _, _, .nil, s => s
  | _, _, _, _, .cons r t, s => .cons r (Rps.app t s)
theorem Rps.take : ∀ {vs : List V} {ds : List D} (n : Nat), Rps K C H vs ds → Rps K C H (vs.take n) (ds.take n)
  | _, _, 0, _ => .nil
  | _, _, _ + 1, .nil => .nil
  | _, _, n + 1, .cons r t => .cons r (Rps.take n t)
theorem Rps.drop : ∀ {vs : List V} {ds : List D} (n : Nat), Rps K C H vs ds → Rps K C H (vs.drop n) (ds.drop n)
  | _, _, 0, r => r
  | _, _, _ + 1, .nil => .nil
  | _, _, n + 1, .cons _ t => Rps.drop n t
theorem Rps.get : ∀ {vs : List V} {ds : List D} {i : Nat} {d : D}, Rps K C H vs ds → ds[i]? = some d → ∃ v, vs[i]? = some v ∧ Rp K C H v d
  | _, _, _, _, .nil, e => by simp at e
  | _, _, 0, _, .cons r _, e => ⟨_, rfl, by cases e; exact r⟩
  | _, _, i + 1, _, .cons _ t, e => Rps.get (i := i) t e
theorem Rps.at : ∀ {vs : List V} {ds : List D} {i : Nat} {v : V}, Rps K C H vs ds → vs[i]? = some v → ∃ d, ds[i]? = some d ∧ Rp K C H v d
  | _, _, _, _, .nil, e => by simp at e
  | _, _, 0, _, .cons r _, e => ⟨_, rfl, by cases e; exact r⟩
  | _, _, i + 1, _, .cons _ t, e => Rps.at (i := i) t e
theorem Rps.ints : ∀ (ns : List Int), Rps K C H (ns.map V.int) (ns.map D.int)
  | [] => .nil
  | n :: r => .cons (.int n) (Rps.ints r)
theorem Rps.int_eq : ∀ {vs : List V} {ns : List Int}, Rps K C H vs (ns.map D.int) → vs = ns.map V.int
  | _, [], .nil => rfl
  | _, n :: r, .cons a t => by
    cases a
    rw [List.map_cons, Rps.int_eq t]
theorem Rps.bls : ∀ {vs : List V} {bs : List Bool}, Rps K C H vs (bs.map D.bl) → vs = bs.map V.bl
  | _, [], .nil => rfl
  | _, n :: r, .cons a t => by
    cases a
    rw [List.map_cons, Rps.bls t]
theorem Rps.rep {v : V} {d : D} (r : Rp K C H v d) : ∀ n, Rps K C H (List.replicate n v) (List.replicate n d)
  | 0 => .nil
  | n + 1 => .cons r (Rps.rep r n)
end
/-- a list of data at v -/
def Rl (K : PySem.W.Frag) (C : Addr) (H : Hp) (v : V) (xs : List D) : Prop := ∃ a vs, v = .ref a ∧ SqL K H a vs ∧ Rps K C H vs xs
def Rw (K : PySem.W.Frag) (C : Addr) (H : Hp) (v : V) : W → Prop
  | .d x => Rp K C H v x
  | .l xs => Rl K C H v xs
  | .ll xss => ∃ a vs, v = .ref a ∧ SqL K H a vs ∧ Paired (Rl K C H) vs xss
  | .hand ns i lf sd k => ∃ p c, v = .ref p ∧ c ≠ p ∧ SqL K H p [.ref c, .int i, .int lf, .int sd, .int k] ∧ SqL K H c (ns.map V.int)
section
variable {K : PySem.W.Frag} {C : Addr} {H H' : Hp}
theorem Rl.mono (s : Same H H') {v : V} {xs : List D} (h : Rl K C H v xs) : Rl K C H' v xs := by
  obtain ⟨a, vs, e, q, r⟩ := h
  exact ⟨a, vs, e, s.seq q, r.mono (.of s)⟩
theorem Rw.mono (s : Same H H') {v : V} : ∀ {w : W}, Rw K C H v w → Rw K C H' v w
  | .d _, h => Rp.mono (.of s) h
  | .l _, h => Rl.mono s h
  | .ll _, ⟨a, vs, e, q, r⟩ => ⟨a, vs, e, s.seq q, Paired.mapP r fun _ _ h => Rl.mono s h⟩
  | .hand _ _ _ _ _, ⟨p, c, e, n, q, r⟩ => ⟨p, c, e, n, s.seq q, s.seq r⟩
end
/-! ### slots -/
abbrev Dn := List (Option W)
def En (K : PySem.W.Frag) (C : Addr) (H : Hp) (σ : L2.St) (δ : Dn) : Prop := σ.length = δ.length ∧ ∀ (i : Nat) (w : W), δ[i]? = some (some w) → ∃ v, σ[i]? = some (some v) ∧ Rw K C H v w
section
variable {K : PySem.W.Frag} {C : Addr} {H H' : Hp} {σ : L2.St} {δ : Dn}
theorem En.mono (s : Same H H') (h : En K C H σ δ) : En K C H' σ δ := ⟨h.1, fun i w e => by
  obtain ⟨v, a, b⟩ := h.2 i w e
  exact ⟨v, a, b.mono s⟩⟩
theorem En.set {i : Nat} {v : V} {w : W} (h : En K C H σ δ) (r : Rw K C H v w) : En K C H (σ.set i (some v)) (δ.set i (some w)) := by
  refine ⟨by rw [List.length_set, List.length_set]; exact h.1, fun j u e => ?_⟩
  by_cases hj : i = j
  · subst hj
    by_cases hl : i < δ.length
    · rw [List.getElem?_set_self hl] at e
      cases e
      exact ⟨v, List.getElem?_set_self (h.1 ▸ hl), r⟩
    · rw [List.getElem?_eq_none (by rw [List.length_set]; omega)] at e
      cases e
  · rw [List.getElem?_set_ne hj] at e
    rw [List.getElem?_set_ne hj]
    exact h.2 j u e
theorem En.unset {i : Nat} (h : En K C H σ δ) : En K C H (σ.set i none) (δ.set i none) := by
  refine ⟨by rw [List.length_set, List.length_set]; exact h.1, fun j u e => ?_⟩
  by_cases hj : i = j
  · subst hj
    by_cases hl : i < δ.length
    · rw [List.getElem?_set_self hl] at e
      cases e
    · rw [List.getElem?_eq_none (by rw [List.length_set]; omega)] at e
      cases e
  · rw [List.getElem?_set_ne hj] at e
    rw [List.getElem?_set_ne hj]
    exact h.2 j u e
/-- forgetting -/
theorem En.weak {δ' : Dn} (h : En K C H σ δ) (hl : δ'.length = δ.length) (hw : ∀ (i : Nat) (w : W), δ'[i]? = some (some w) → δ[i]? = some (some w)) : En K C H σ δ' := ⟨h.1.trans hl.symm, fun i w e => h.2 i w (hw i w e)⟩
def wipeD (δ : Dn) : List Nat → Dn
  | [] => δ
  | v :: vs => (wipeD δ vs).set v none
theorem En.wipe (h : En K C H σ δ) : ∀ vs : List Nat, En K C H (wipe σ vs) (wipeD δ vs)
  | [] => h
  | v :: vs => (En.wipe h vs).unset
theorem set_set_none {α : Type} (l : List (Option α)) (i j : Nat) : (l.set i none).set j none = (l.set j none).set i none := by
  by_cases e : i = j
  · subst e
    rfl
  · exact List.set_comm _ _ e
theorem wipe_push (σ : L2.St) (i : Nat) : ∀ vs : List Nat, wipe (σ.set i none) vs = (wipe σ vs).set i none
  | [] => rfl
  | v :: vs => by
    show (wipe (σ.set i none) vs).set v none = ((wipe σ vs).set v none).set i none
    rw [wipe_push σ i vs, set_set_none]
theorem wipe_idem (σ : L2.St) : ∀ vs : List Nat, wipe (wipe σ vs) vs = wipe σ vs
  | [] => rfl
  | v :: vs => by
    show (wipe ((wipe σ vs).set v none) vs).set v none = (wipe σ vs).set v none
    rw [wipe_push, wipe_idem σ vs, List.set_set]
theorem wipe_set {x : Option V} {i : Nat} (σ : L2.St) : ∀ {vs : List Nat}, i ∈ vs → wipe (σ.set i x) vs = wipe σ vs
  | v :: vs, h => by
    show (wipe (σ.set i x) vs).set v none = (wipe σ vs).set v none
    by_cases e : i ∈ vs
    · rw [wipe_set σ e]
    · have ev : i = v := (List.mem_cons.mp h).resolve_right e
      subst ev
      have hn : ∀ us : List Nat, i ∉ us → wipe (σ.set i x) us = (wipe σ us).set i x := by
        intro us
        induction us with
        | nil => intro _; rfl
        | cons u us ih =>
          intro hm
          have h1 : i ≠ u := fun z => hm (z ▸ List.mem_cons_self)
          have h2 : i ∉ us := fun z => hm (List.mem_cons_of_mem _ z)
          show (wipe (σ.set i x) us).set u none = ((wipe σ us).set u none).set i x
          rw [ih h2, List.set_comm _ _ h1]
      rw [hn vs e, List.set_set]
end
/-! ### readings told by some rule -/
def wE (X : Cx) (e : Expr) : TE := fun σ H Q => ∃ t, PE X e t ∧ t σ H Q
def wT (X : Cx) (e : Expr) : TT := fun σ H Q => ∃ t, PT X e t ∧ t σ H Q
def wTs (X : Cx) (e : List Expr) : TT := fun σ H Q => ∃ t, PTs X e t ∧ t σ H Q
def wA (X : Cx) (es : List Expr) : TA := fun σ H Q => ∃ t, PA X es t ∧ t σ H Q
def wO (X : Cx) (e : Option Expr) : TO := fun σ H Q => ∃ t, PO X e t ∧ t σ H Q
def wI (X : Cx) (tg iter : Expr) : TI := fun σ H R => ∃ t, PI X tg iter t ∧ t σ H R
def wS (X : Cx) (st : Stmt) : TS := fun D σ H => ∃ t, PS X st t ∧ t D σ H
def wSs (X : Cx) (st : List Stmt) : TS := fun D σ H => ∃ t, PSs X st t ∧ t D σ H
section
variable {X : Cx}
theorem pe_w {e : Expr} : PE X e (wE X e) := ⟨fun pins s σ H Q I ⟨_, h, q⟩ => h.run pins s σ H Q I q⟩
theorem pt_w {e : Expr} : PT X e (wT X e) := ⟨fun pins s σ H Q I ⟨_, h, q⟩ => h.run pins s σ H Q I q⟩
theorem pts_w {e : List Expr} : PTs X e (wTs X e) := ⟨fun pins s σ H Q I ⟨_, h, q⟩ => h.run pins s σ H Q I q⟩
theorem pa_w {es : List Expr} : PA X es (wA X es) := ⟨fun pos pins s σ H Q I ⟨_, h, q⟩ => h.run pos pins s σ H Q I q⟩
theorem po_w {e : Option Expr} : PO X e (wO X e) := ⟨fun pins s σ H Q I ⟨_, h, q⟩ => h.run pins s σ H Q I q⟩
theorem pi_w {tg iter : Expr} : PI X tg iter (wI X tg iter) := ⟨fun pins s σ H R I ⟨_, h, q⟩ => h.run pins s σ H R I q⟩
theorem ps_w {st : Stmt} : PS X st (wS X st) := ⟨fun pins s σ H D I ⟨_, h, q⟩ => h.run pins s σ H D I q⟩
theorem pss_w {st : List Stmt} : PSs X st (wSs X st) := ⟨fun pins s σ H D I ⟨_, h, q⟩ => h.run pins s σ H D I q⟩
end
/-! ### what evaluates to what -/
section
variable (C : Addr) (X : Cx) (δ : Dn)
def De (e : Expr) (w : W) : Prop := ∀ (σ : L2.St) (H : Hp) (Q : VK), En X.K C H σ δ → (∀ v H', Same H H' → Rw X.K C H' v w → Q v H') → wE X e σ H Q
/-- a new list -/
def Dl (e : Expr) (xs : List D) : Prop := ∀ (σ : L2.St) (H : Hp) (Q : VK), En X.K C H σ δ → (∀ p vs H', H p = none → Same H H' → H' p = some (.lst vs) → Rps X.K C H' vs xs → Q (.ref p) H') → wE X e σ H Q
def Dt (e : Expr) (b : Bool) : Prop := ∀ (σ : L2.St) (H : Hp) (Q : Bool → Hp → Prop), En X.K C H σ δ → (∀ H', Same H H' → Q b H') → wT X e σ H Q
def Dts (e : List Expr) (b : Bool) : Prop := ∀ (σ : L2.St) (H : Hp) (Q : Bool → Hp → Prop), En X.K C H σ δ → (∀ H', Same H H' → Q b H') → wTs X e σ H Q
def Da (es : List Expr) (ws : List W) : Prop := ∀ (σ : L2.St) (H : Hp) (Q : List V → Hp → Prop), En X.K C H σ δ → (∀ vs H', Same H H' → Paired (Rw X.K C H') vs ws → Q vs H') → wA X es σ H Q
def Do (e : Option Expr) (o : Option Int) : Prop := ∀ (σ : L2.St) (H : Hp) (Q : Option Int → Hp → Prop), En X.K C H σ δ → (∀ H', Same H H' → Q o H') → wO X e σ H Q
/-- a two-place operation, a call, an item, by data -/
def DR (f : Value → Value → Sem Value) (a b w : W) : Prop := ∃ r : R2, OpR X f r ∧ ∀ (H : Hp) (x y : V) (Q : VK), Rw X.K C H x a → Rw X.K C H y b → (∀ v H', Same H H' → Rw X.K C H' v w → Q v H') → r x y H Q
def DC (f : Value) (ws : List W) (w : W) : Prop := ∃ r : List V → Hp → VK → Prop, CallR X f r ∧ ∀ (H : Hp) (xs : List V) (Q : VK), Paired (Rw X.K C H) xs ws → (∀ v H', Same H H' → Rw X.K C H' v w → Q v H') → r xs H Q
def DX (a b w : W) : Prop := ∃ r : R2, IxR X r ∧ ∀ (H : Hp) (x y : V) (Q : VK), Rw X.K C H x a → Rw X.K C H y b → (∀ v H', Same H H' → Rw X.K C H' v w → Q v H') → r x y H Q
end
section
variable {C : Addr} {X : Cx} {δ : Dn} {a b c e : Expr} {pos p q : Pos}
theorem De.is {w w' : W} (h : De C X δ e w) (q : w = w') : De C X δ e w' := q ▸ h
theorem de_var {i : Nat} {x : Str} {w : W} (hN : X.N[i]? = some x) (hv : Vis X.env.scope x) (h : δ[i]? = some (some w)) (hd : (x == ("__debug__" : Str)) = false := by decide) (hcd : (x == ("__classdict__" : Str)) = false := by decide) :
    De C X δ (.Name x pos) w := fun σ H Q E q => by
  obtain ⟨v, a, r⟩ := E.2 i w h
  exact ⟨_, pe_var hN hv hd hcd, v, a, q v H (Same.refl H) r⟩
theorem de_int {i : Int} {j} : De C X δ (.Constant (.int i) j pos) (.d (.int i)) := fun _ H _ _ q => ⟨_, pe_int, q _ H (Same.refl H) (.int i)⟩
theorem de_bl {i : Bool} {j} : De C X δ (.Constant (.bool i) j pos) (.d (.bl i)) := fun _ H _ _ q => ⟨_, pe_bl, q _ H (Same.refl H) (.bl i)⟩
theorem de_non {j} : De C X δ (.Constant .none j pos) (.d .non) := fun _ H _ _ q => ⟨_, pe_non, q _ H (Same.refl H) .non⟩
theorem de_str {x : Str} {j} : De C X δ (.Constant (.str x) j pos) (.d (.str x)) := fun _ H _ _ q => ⟨_, pe_str, q _ H (Same.refl H) (.str x)⟩
/-- a module's name -/
theorem de_glob {x : Str} {v : V} {u : Value} {w : W} (hm : X.mg x = some u) (r : RelV v u) (hw : ∀ H, Rw X.K C H v w) (hg : Gl X x := by rfl) (hd : (x == ("__debug__" : Str)) = false := by decide) : De C X δ (.Name x pos) w :=
  fun _ H _ _ q => ⟨_, pe_glob hg hm r hd, q _ H (Same.refl H) (hw H)⟩
theorem de_gstr {x z : Str} (hm : ∃ t, X.mg x = some (.str z t)) (hg : Gl X x := by rfl) (hd : (x == ("__debug__" : Str)) = false := by decide) : De C X δ (.Name x pos) (.d (.str z)) := by
  obtain ⟨t, hm⟩ := hm
  exact de_glob (v := .str z) hm ⟨_, rfl⟩ (fun H => Rp.str z) hg hd
theorem de_gint {x : Str} {z : Int} (hm : ∃ t, X.mg x = some (.int z t)) (hg : Gl X x := by rfl) (hd : (x == ("__debug__" : Str)) = false := by decide) : De C X δ (.Name x pos) (.d (.int z)) := by
  obtain ⟨t, hm⟩ := hm
  exact de_glob (v := .int z) hm ⟨_, rfl⟩ (fun H => Rp.int z) hg hd
theorem de_gfn {x : Str} {f : Addr} (hm : X.mg x = some (.ref f)) (hg : Gl X x := by rfl) (hd : (x == ("__debug__" : Str)) = false := by decide) : De C X δ (.Name x pos) (.d (.raw (.ref f))) :=
  de_glob (v := .ref f) hm rfl (fun H => Rp.raw _) hg hd
theorem de_never {w : W} (h : False) : De C X δ e w := h.elim
theorem De.pe {w : W} (h : De C X δ e w) {σ : L2.St} {H : Hp} {Q : VK} (E : En X.K C H σ δ) (q : ∀ v H', Same H H' → Rw X.K C H' v w → Q v H') : wE X e σ H Q := h σ H Q E q
theorem de_of_l {xs : List D} (h : Dl C X δ e xs) : De C X δ e (.l xs) := fun σ H Q E q => h σ H Q E fun p vs H' _ s hp r => q _ H' s ⟨p, vs, rfl, SqL.of hp, r⟩
/-! operators -/
theorem de_bin {op : Operator} {x y w : W} (r : DR C X (binaryOp op) x y w) (ha : De C X δ a x) (hb : De C X δ b y) : De C X δ (.BinOp a op b pos) w := fun σ H Q E q => by
  obtain ⟨r, ho, hr⟩ := r
  refine ⟨_, pe_op ho pe_w pe_w, ?_⟩
  refine ha σ H _ E fun v H1 s1 r1 => ?_
  refine hb σ H1 _ (E.mono s1) fun u H2 s2 r2 => ?_
  exact hr H2 v u Q (r1.mono s2) r2 fun z H3 s3 r3 => q z H3 (s1.trans (s2.trans s3)) r3
theorem de_cmp {op : CmpOp} {x y w : W} (r : DR C X (compareOp op) x y w) (ha : De C X δ a x) (hb : De C X δ b y) (hm : behindInMarks op b = false := by rfl) : De C X δ (.Compare a [op] [b] pos) w := fun σ H Q E q => by
  obtain ⟨r, ho, hr⟩ := r
  refine ⟨_, pe_cmpR ho pe_w pe_w hm, ?_⟩
  refine ha σ H _ E fun v H1 s1 r1 => ?_
  refine hb σ H1 _ (E.mono s1) fun u H2 s2 r2 => ?_
  exact hr H2 v u Q (r1.mono s2) r2 fun z H3 s3 r3 => q z H3 (s1.trans (s2.trans s3)) r3
theorem dt_cmp {op : CmpOp} {x y : W} {k : Bool} (r : DR C X (compareOp op) x y (.d (.bl k))) (ha : De C X δ a x) (hb : De C X δ b y) (hm : behindInMarks op b = false := by rfl) : Dt C X δ (.Compare a [op] [b] pos) k := fun σ H Q E q => by
  obtain ⟨r, ho, hr⟩ := r
  refine ⟨_, pt_cmpR ho pe_w pe_w hm, ?_⟩
  refine ha σ H _ E fun v H1 s1 r1 => ?_
  refine hb σ H1 _ (E.mono s1) fun u H2 s2 r2 => ?_
  refine hr H2 v u _ (r1.mono s2) r2 fun z H3 s3 r3 => ?_
  cases r3
  exact ⟨k, rfl, q H3 (s1.trans (s2.trans s3))⟩
/-- a op b op' c -/
theorem de_chain {op op' : CmpOp} {x y z : W} {k k' : Bool} (r : DR C X (compareOp op) x y (.d (.bl k))) (ho' : ∃ r, OpR X (compareOp op') r) (r' : k = true → DR C X (compareOp op') y z (.d (.bl k'))) (ha : De C X δ a x) (hb : De C X δ b y) (hc : De C X δ c z) (hm : lastMarks [op, op'] [b, c] = false := by with_unfolding_all rfl) :
    De C X δ (.Compare a [op, op'] [b, c] pos) (.d (.bl (k && k'))) := fun σ H Q E q => by
  obtain ⟨r, ho, hr⟩ := r
  cases k with
  | false =>
    obtain ⟨s, hs⟩ := ho'
    refine ⟨_, pe_chain ho hs pe_w pe_w pe_w hm, ?_⟩
    refine ha σ H _ E fun v H1 s1 r1 => ?_
    refine hb σ H1 _ (E.mono s1) fun u H2 s2 r2 => ?_
    refine hr H2 v u _ (r1.mono s2) r2 fun z H3 s3 r3 => ?_
    cases r3
    exact ⟨false, rfl, iteF (q _ H3 (s1.trans (s2.trans s3)) (.bl _))⟩
  | true =>
    obtain ⟨s, hs, hr'⟩ := r' rfl
    refine ⟨_, pe_chain ho hs pe_w pe_w pe_w hm, ?_⟩
    refine ha σ H _ E fun v H1 s1 r1 => ?_
    refine hb σ H1 _ (E.mono s1) fun u H2 s2 r2 => ?_
    refine hr H2 v u _ (r1.mono s2) r2 fun z H3 s3 r3 => ?_
    cases r3
    refine ⟨true, rfl, iteT ?_⟩
    have s12 := s1.trans (s2.trans s3)
    refine hc σ H3 _ (E.mono s12) fun w H4 s4 r4 => ?_
    exact hr' H4 u w Q (r2.mono (s3.trans s4)) r4 fun z H5 s5 r5 => q z H5 (s12.trans (s4.trans s5)) r5
end
end OP

set_option Elab.async false
set_option linter.all false
set_option maxRecDepth 100000
set_option maxHeartbeats 4000000
/-! OpB: operators, calls, items, slices, displays, bool ops, tests by data -/
namespace OP
open PySem PySem.Spec PyProof.Rows L2
theorem szl {n : Nat} (h : n ≤ 100000) : n ≤ sizeLine := Nat.le_trans h (by decide)
theorem szlt {n : Nat} (h : n < 100000) : n < sizeLine := Nat.lt_of_lt_of_le h (by decide)
section
variable {C : Addr} {X : Cx} {δ : Dn} {a b c e : Expr} {pos p q : Pos}
theorem dr_int {f : Value → Value → Sem Value} {g : Int → Int → V} {d : Int → Int → D} (ho : OpR X f (rI0 g)) (hg : ∀ i j (H : Hp), Rp X.K C H (g i j) (d i j)) {i j : Int} : DR C X f (.d (.int i)) (.d (.int j)) (.d (d i j)) :=
  ⟨_, ho, fun H x y Q rx ry q => by
    cases rx
    cases ry
    exact ⟨i, j, rfl, rfl, q _ H (Same.refl H) (hg i j H)⟩⟩
theorem dr_intC {f : Value → Value → Sem Value} {P : Int → Int → Prop} {g : Int → Int → V} {d : Int → Int → D} (ho : OpR X f (rI P g)) (hg : ∀ i j (H : Hp), Rp X.K C H (g i j) (d i j)) {i j : Int} (hp : P i j) : DR C X f (.d (.int i)) (.d (.int j)) (.d (d i j)) :=
  ⟨_, ho, fun H x y Q rx ry q => by
    cases rx
    cases ry
    exact ⟨i, j, rfl, rfl, hp, q _ H (Same.refl H) (hg i j H)⟩⟩
theorem dr_add {i j : Int} : DR C X (binaryOp .Add) (.d (.int i)) (.d (.int j)) (.d (.int (i + j))) := dr_int (d := fun i j => .int (i + j)) op_add fun i j H => .int _
theorem dr_sub {i j : Int} : DR C X (binaryOp .Sub) (.d (.int i)) (.d (.int j)) (.d (.int (i - j))) := dr_int (d := fun i j => .int (i - j)) op_sub fun i j H => .int _
theorem dr_mul {i j : Int} (h : CMul i j) : DR C X (binaryOp .Mult) (.d (.int i)) (.d (.int j)) (.d (.int (i * j))) := dr_intC (d := fun i j => .int (i * j)) op_mul (fun i j H => .int _) h
theorem dr_lt {i j : Int} : DR C X (compareOp .Lt) (.d (.int i)) (.d (.int j)) (.d (.bl (decide (i < j)))) := dr_int (d := fun i j => .bl (decide (i < j))) op_lt fun i j H => .bl _
theorem dr_le {i j : Int} : DR C X (compareOp .LtE) (.d (.int i)) (.d (.int j)) (.d (.bl (decide (i ≤ j)))) := dr_int (d := fun i j => .bl (decide (i ≤ j))) op_le fun i j H => .bl _
theorem dr_gt {i j : Int} : DR C X (compareOp .Gt) (.d (.int i)) (.d (.int j)) (.d (.bl (decide (j < i)))) := dr_int (d := fun i j => .bl (decide (j < i))) op_gt fun i j H => .bl _
theorem dr_ge {i j : Int} : DR C X (compareOp .GtE) (.d (.int i)) (.d (.int j)) (.d (.bl (decide (j ≤ i)))) := dr_int (d := fun i j => .bl (decide (j ≤ i))) op_ge fun i j H => .bl _
theorem dr_eqI {i j : Int} : DR C X (compareOp .Eq) (.d (.int i)) (.d (.int j)) (.d (.bl (decide (i = j)))) := ⟨_, op_eq, fun H x y Q rx ry q => by
    cases rx
    cases ry
    refine ⟨rfl, ?_⟩
    have e : decide (V.int i = V.int j) = decide (i = j) := by simp
    rw [e]
    exact q _ H (Same.refl H) (.bl _)⟩
theorem dr_neI {i j : Int} : DR C X (compareOp .NotEq) (.d (.int i)) (.d (.int j)) (.d (.bl (!decide (i = j)))) := ⟨_, op_ne, fun H x y Q rx ry q => by
    cases rx
    cases ry
    refine ⟨rfl, ?_⟩
    have e : decide (V.int i = V.int j) = decide (i = j) := by simp
    rw [e]
    exact q _ H (Same.refl H) (.bl _)⟩
theorem dr_eqS {i j : Str} : DR C X (compareOp .Eq) (.d (.str i)) (.d (.str j)) (.d (.bl (decide (i = j)))) := ⟨_, op_eq, fun H x y Q rx ry q => by
    cases rx
    cases ry
    refine ⟨rfl, ?_⟩
    have e : decide (V.str i = V.str j) = decide (i = j) := by simp
    rw [e]
    exact q _ H (Same.refl H) (.bl _)⟩
theorem dr_neB {i j : Bool} : DR C X (compareOp .NotEq) (.d (.bl i)) (.d (.bl j)) (.d (.bl (!decide (i = j)))) := ⟨_, op_ne, fun H x y Q rx ry q => by
    cases rx
    cases ry
    refine ⟨rfl, ?_⟩
    have e : decide (V.bl i = V.bl j) = decide (i = j) := by simp
    rw [e]
    exact q _ H (Same.refl H) (.bl _)⟩
theorem dr_eqB {i j : Bool} : DR C X (compareOp .Eq) (.d (.bl i)) (.d (.bl j)) (.d (.bl (decide (i = j)))) := ⟨_, op_eq, fun H x y Q rx ry q => by
    cases rx
    cases ry
    refine ⟨rfl, ?_⟩
    have e : decide (V.bl i = V.bl j) = decide (i = j) := by simp
    rw [e]
    exact q _ H (Same.refl H) (.bl _)⟩
def isNon : W → Bool
  | .d .non => true
  | _ => false
theorem Rw.isNon {K : PySem.W.Frag} {H : Hp} {v : V} {w : W} (h : Rw K C H v w) (hr : ∀ u, w ≠ .d (.raw u)) : decide (v = V.non) = isNon w := by
  cases w with
  | d x =>
    cases h with
    | non => rfl
    | bl => rfl
    | int => rfl
    | str => rfl
    | tup => rfl
    | play => rfl
    | raw v => exact absurd rfl (hr v)
  | l xs =>
    obtain ⟨a, vs, rfl, _⟩ := h
    rfl
  | ll xs =>
    obtain ⟨a, vs, rfl, _⟩ := h
    rfl
  | hand ns i lf sd k =>
    obtain ⟨p, c, rfl, _⟩ := h
    rfl
theorem dr_isN {w : W} (hr : ∀ u, w ≠ .d (.raw u) := by intro _ z; cases z) : DR C X (compareOp .Is) w (.d .non) (.d (.bl (isNon w))) := ⟨_, op_isN, fun H x y Q rx ry q => by
    cases ry
    refine ⟨rfl, ?_⟩
    rw [rx.isNon hr]
    exact q _ H (Same.refl H) (.bl _)⟩
theorem dr_notN {w : W} (hr : ∀ u, w ≠ .d (.raw u) := by intro _ z; cases z) : DR C X (compareOp .IsNot) w (.d .non) (.d (.bl (!isNon w))) := ⟨_, op_notN, fun H x y Q rx ry q => by
    cases ry
    refine ⟨rfl, ?_⟩
    rw [rx.isNon hr]
    exact q _ H (Same.refl H) (.bl _)⟩
theorem dr_catT {xs ys : List D} (hz : xs.length + ys.length ≤ 100000) : DR C X (binaryOp .Add) (.d (.tup xs)) (.d (.tup ys)) (.d (.tup (xs ++ ys))) := ⟨_, op_catA, fun H x y Q rx ry q => by
    cases rx with
    | @tup a vs _ hs rs =>
      cases ry with
      | @tup a2 us _ hs2 rs2 =>
        refine ⟨a, a2, vs, us, rfl, rfl, hs, hs2, by rw [rs.length, rs2.length]; exact szl hz, fun e => ?_, fun _ e => ?_, fun _ _ p hp => ?_⟩
        · subst e
          cases rs
          exact q _ H (Same.refl H) (.tup hs2 rs2)
        · subst e
          cases rs2
          rw [List.append_nil] at q
          exact q _ H (Same.refl H) (.tup hs rs)
        · have s := same_new (o := .tup (vs ++ us)) hp
          exact q _ _ s (.tup (SqT.of upd_same) ((rs.app rs2).mono (.of s)))⟩
/-! in, not in -/
theorem inV_ints (i : Int) : ∀ ns : List Int, inV (.int i) (ns.map V.int) = decide (i ∈ ns)
  | [] => by simp [inV]
  | n :: r => by
    have ih := inV_ints i r
    unfold inV at ih ⊢
    rw [List.map_cons, List.any_cons, ih]
    simp only [eqV, List.mem_cons]
    by_cases h : n = i
    · subst h; simp
    · have h' : ¬ i = n := fun z => h z.symm
      simp [h, h']
theorem flat_ints (ns : List Int) : (ns.map V.int).all flatV = true := by
  rw [List.all_map]
  exact List.all_eq_true.mpr fun _ _ => rfl
theorem dr_inT {i : Int} {ns : List Int} : DR C X (compareOp .In) (.d (.int i)) (.d (.tup (ns.map D.int))) (.d (.bl (decide (i ∈ ns)))) := ⟨_, op_in_seq, fun H x y Q rx ry q => by
    cases rx
    cases ry with
    | @tup a vs _ hs rs =>
      have e := rs.int_eq
      subst e
      refine ⟨a, _, rfl, .inr hs, rfl, flat_ints ns, ?_⟩
      simp only [Bool.false_eq_true, if_false, inV_ints]
      exact q _ H (Same.refl H) (.bl _)⟩
theorem dr_notInT {i : Int} {ns : List Int} : DR C X (compareOp .NotIn) (.d (.int i)) (.d (.tup (ns.map D.int))) (.d (.bl (!decide (i ∈ ns)))) := ⟨_, op_notIn_seq, fun H x y Q rx ry q => by
    cases rx
    cases ry with
    | @tup a vs _ hs rs =>
      have e := rs.int_eq
      subst e
      refine ⟨a, _, rfl, .inr hs, rfl, flat_ints ns, ?_⟩
      simp only [if_true, inV_ints]
      exact q _ H (Same.refl H) (.bl _)⟩
theorem dr_inL {i : Int} {ns : List Int} : DR C X (compareOp .In) (.d (.int i)) (.l (ns.map D.int)) (.d (.bl (decide (i ∈ ns)))) := ⟨_, op_in_seq, fun H x y Q rx ry q => by
    cases rx
    obtain ⟨a, vs, rfl, hs, rs⟩ := ry
    have e := rs.int_eq
    subst e
    refine ⟨a, _, rfl, .inl hs, rfl, flat_ints ns, ?_⟩
    simp only [Bool.false_eq_true, if_false, inV_ints]
    exact q _ H (Same.refl H) (.bl _)⟩
theorem dr_notInL {i : Int} {ns : List Int} : DR C X (compareOp .NotIn) (.d (.int i)) (.l (ns.map D.int)) (.d (.bl (!decide (i ∈ ns)))) := ⟨_, op_notIn_seq, fun H x y Q rx ry q => by
    cases rx
    obtain ⟨a, vs, rfl, hs, rs⟩ := ry
    have e := rs.int_eq
    subst e
    refine ⟨a, _, rfl, .inl hs, rfl, flat_ints ns, ?_⟩
    simp only [if_true, inV_ints]
    exact q _ H (Same.refl H) (.bl _)⟩
theorem Rps.str_eq {K : PySem.W.Frag} {H : Hp} : ∀ {vs : List V} {ns : List Str}, Rps K C H vs (ns.map D.str) → vs = ns.map V.str
  | _, [], .nil => rfl
  | _, n :: r, .cons a t => by
    cases a
    rw [List.map_cons, Rps.str_eq t]
theorem Rps.strs {K : PySem.W.Frag} {H : Hp} : ∀ (ns : List Str), Rps K C H (ns.map V.str) (ns.map D.str)
  | [] => .nil
  | n :: r => .cons (.str n) (Rps.strs r)
theorem flat_str (ns : List Str) : (ns.map V.str).all flatV = true := by
  rw [List.all_map]
  exact List.all_eq_true.mpr fun _ _ => rfl
theorem dr_inS {i : Str} {ns : List Str} {k : Bool} (hk : inV (.str i) (ns.map V.str) = k) : DR C X (compareOp .In) (.d (.str i)) (.d (.tup (ns.map D.str))) (.d (.bl k)) := ⟨_, op_in_seq, fun H x y Q rx ry q => by
    cases rx
    cases ry with
    | @tup a vs _ hs rs =>
      have e := rs.str_eq
      subst e
      refine ⟨a, _, rfl, .inr hs, rfl, flat_str ns, ?_⟩
      simp only [Bool.false_eq_true, if_false, hk]
      exact q _ H (Same.refl H) (.bl _)⟩
theorem dr_notInS {i : Str} {ns : List Str} {k : Bool} (hk : (!inV (.str i) (ns.map V.str)) = k) : DR C X (compareOp .NotIn) (.d (.str i)) (.d (.tup (ns.map D.str))) (.d (.bl k)) := ⟨_, op_notIn_seq, fun H x y Q rx ry q => by
    cases rx
    cases ry with
    | @tup a vs _ hs rs =>
      have e := rs.str_eq
      subst e
      refine ⟨a, _, rfl, .inr hs, rfl, flat_str ns, ?_⟩
      simp only [if_true, hk]
      exact q _ H (Same.refl H) (.bl _)⟩
/-! == of what a next step is -/
theorem dp_str1 {K : PySem.W.Frag} {H : Hp} {v : V} {s : Str} (h : Rp K C H v (.tup [.str s])) : Dp K H v (.tuple [.str s]) := by
  cases h with
  | tup hs rs =>
    cases rs with
    | cons r1 t =>
      cases t
      cases r1
      exact .tup hs (.cons (.str s) .nil)
theorem dp_str2 {K : PySem.W.Frag} {H : Hp} {v : V} {s : Str} {i : Int} (h : Rp K C H v (.tup [.str s, .int i])) : Dp K H v (.tuple [.str s, .int i]) := by
  cases h with
  | tup hs rs =>
    cases rs with
    | cons r1 t =>
      cases t with
      | cons r2 t =>
        cases t
        cases r1
        cases r2
        exact .tup hs (.cons (.str s) (.cons (.int i) .nil))
theorem shaped_put : SeqAt.shaped (.tuple [.str "put"]) = true := by decide +kernel
theorem shaped_look (i : Int) : SeqAt.shaped (.tuple [.str "look", .int i]) = true := by
  have e : PyData.canLay0 (.str "look") = true := by decide +kernel
  simp [SeqAt.shaped, PyData.canLay0, PyData.canLayAll0, PyData.depth, PyData.depthAll] at e ⊢
  exact e
theorem eqv_put : PyData.eqv (.tuple [.str "put"]) (.tuple [.str "put"]) = true := by decide +kernel
theorem dr_eqP (hu : X.A.units + 64 < cLine) {s t : Str} {k : Bool} (h1 : SeqAt.shaped (.tuple [.str s]) = true) (h2 : SeqAt.shaped (.tuple [.str t]) = true) (hk : PyData.eqv (.tuple [.str s]) (.tuple [.str t]) = k) :
    DR C X (compareOp .Eq) (.d (.tup [.str s])) (.d (.tup [.str t])) (.d (.bl k)) := ⟨_, op_eqD hu, fun H v u Q rx ry q => by
    refine ⟨_, _, dp_str1 rx, dp_str1 ry, h1, h2, ?_⟩
    rw [hk]
    exact q _ H (Same.refl H) (.bl _)⟩
theorem dr_eqQ (hu : X.A.units + 64 < cLine) {s t : Str} {i : Int} (h1 : SeqAt.shaped (.tuple [.str s, .int i]) = true) (h2 : SeqAt.shaped (.tuple [.str t]) = true) : DR C X (compareOp .Eq) (.d (.tup [.str s, .int i])) (.d (.tup [.str t])) (.d (.bl false)) := ⟨_, op_eqD hu, fun H v u Q rx ry q => by
    refine ⟨_, _, dp_str2 rx, dp_str1 ry, h1, h2, ?_⟩
    have e : PyData.eqv (.tuple [.str s, .int i]) (.tuple [.str t]) = false := by
      simp [PyData.eqv, PyData.eqvAll]
    rw [e]
    exact q _ H (Same.refl H) (.bl _)⟩
/-! items -/
theorem dx_t {xs : List D} {i : Int} {d : D} (h : atI xs i = some d) : DX C X (.d (.tup xs)) (.d (.int i)) (.d d) := ⟨_, ix_tup, fun H x y Q rx ry q => by
    cases ry
    cases rx with
    | @tup a vs _ hs rs =>
      unfold atI at h
      obtain ⟨j, hj, hd⟩ := Option.bind_eq_some_iff.mp h
      obtain ⟨v, hv, r⟩ := rs.get hd
      refine ⟨a, vs, i, v, rfl, rfl, hs, ?_, q v H (Same.refl H) r⟩
      unfold atI
      rw [rs.length, hj]
      exact hv⟩
theorem dx_l {xs : List D} {i : Int} {d : D} (h : atI xs i = some d) : DX C X (.l xs) (.d (.int i)) (.d d) := ⟨_, ix_list, fun H x y Q rx ry q => by
    cases ry
    obtain ⟨a, vs, rfl, hs, rs⟩ := rx
    unfold atI at h
    obtain ⟨j, hj, hd⟩ := Option.bind_eq_some_iff.mp h
    obtain ⟨v, hv, r⟩ := rs.get hd
    refine ⟨a, vs, i, v, rfl, rfl, hs, ?_, q v H (Same.refl H) r⟩
    unfold atI
    rw [rs.length, hj]
    exact hv⟩
theorem de_ix {x y w : W} (r : DX C X x y w) (ha : De C X δ a x) (hb : De C X δ b y) (hs : PlainIx b := by exact fun _ _ => rfl) : De C X δ (.Subscript a b pos) w := fun σ H Q E q => by
  obtain ⟨r, ho, hr⟩ := r
  refine ⟨_, pe_ix ho pe_w pe_w hs, ?_⟩
  refine ha σ H _ E fun v H1 s1 r1 => ?_
  refine hb σ H1 _ (E.mono s1) fun u H2 s2 r2 => ?_
  exact hr H2 v u Q (r1.mono s2) r2 fun z H3 s3 r3 => q z H3 (s1.trans (s2.trans s3)) r3
/-! slices -/
theorem do_none : Do C X δ none none := fun σ H Q E q => ⟨_, po_none, q H (Same.refl H)⟩
theorem do_some {i : Int} (h : De C X δ e (.d (.int i))) : Do C X δ (some e) (some i) := fun σ H Q E q => by
  refine ⟨_, po_some pe_w, h σ H _ E fun v H1 s1 r1 => ?_⟩
  cases r1
  exact ⟨i, rfl, q H1 s1⟩
def cutD (xs : List D) (lo hi : Option Int) : List D := (xs.drop (HT.sIx xs.length 0 lo)).take (HT.sIx xs.length xs.length hi - HT.sIx xs.length 0 lo)
theorem Rps.cut {K : PySem.W.Frag} {H : Hp} {vs : List V} {ds : List D} (r : Rps K C H vs ds) (lo hi : Option Int) : Rps K C H (cutV vs lo hi) (cutD ds lo hi) := by
  unfold cutV cutD
  rw [r.length]
  exact (r.drop _).take _
theorem de_slT {xs : List D} {lo hi : Option Expr} {l u : Option Int} {p2 : Pos} (h : De C X δ e (.d (.tup xs))) (hl : Do C X δ lo l) (hh : Do C X δ hi u) : De C X δ (.Subscript e (.Slice lo hi none p2) pos) (.d (.tup (cutD xs l u))) := fun σ H Q E q => by
  refine ⟨_, pe_slice sl_tupA pe_w po_w po_w, ?_⟩
  refine h σ H _ E fun v H1 s1 r1 => ?_
  refine hl σ H1 _ (E.mono s1) fun H2 s2 => ?_
  refine hh σ H2 _ (E.mono (s1.trans s2)) fun H3 s3 => ?_
  cases r1 with
  | @tup a vs _ hs rs =>
    have k := Kt.of (s2.trans s3)
    have s := s1.trans (s2.trans s3)
    have rs3 := rs.mono k
    refine ⟨a, vs, rfl, k.tup hs, fun hw => ?_, fun hw p hp => ?_⟩
    · have e : cutD xs l u = xs := by
        unfold cutD
        rw [rs.length] at hw
        rw [hw.1, hw.2, List.drop_zero, Nat.sub_zero, List.take_length]
      rw [e] at q
      exact q _ H3 s (.tup (k.tup hs) rs3)
    · have sn := same_new (o := .tup (cutV vs l u)) hp
      exact q _ _ (s.trans sn) (.tup (SqT.of upd_same) ((rs3.cut l u).mono (.of sn)))
theorem dl_slL {xs : List D} {lo hi : Option Expr} {l u : Option Int} {p2 : Pos} (h : De C X δ e (.l xs)) (hl : Do C X δ lo l) (hh : Do C X δ hi u) : Dl C X δ (.Subscript e (.Slice lo hi none p2) pos) (cutD xs l u) := fun σ H Q E q => by
  refine ⟨_, pe_slice sl_list pe_w po_w po_w, ?_⟩
  refine h σ H _ E fun v H1 s1 r1 => ?_
  refine hl σ H1 _ (E.mono s1) fun H2 s2 => ?_
  refine hh σ H2 _ (E.mono (s1.trans s2)) fun H3 s3 => ?_
  obtain ⟨a, vs, rfl, hs, rs⟩ := r1
  have k := s2.trans s3
  refine ⟨a, vs, rfl, k.seq hs, fun p hp => ?_⟩
  have sn := same_new (o := .lst (cutV vs l u)) hp
  have s := s1.trans k
  exact q p _ _ (s.free hp) (s.trans sn) upd_same ((rs.cut l u).mono (.of (k.trans sn)))
/-! arguments, displays -/
theorem da_nil : Da C X δ [] [] := fun σ H Q E q => ⟨_, pa_nil, q _ H (Same.refl H) .nil⟩
theorem da_cons {es : List Expr} {w : W} {ws : List W} (h : De C X δ e w) (hr : Da C X δ es ws) (hs : starEach (e :: es) X.env = (false, eval e X.env) :: starEach es X.env := by rfl) : Da C X δ (e :: es) (w :: ws) := fun σ H Q E q => by
  refine ⟨_, pa_cons pe_w pa_w hs, h σ H _ E fun v H1 s1 r1 => ?_⟩
  refine hr σ H1 _ (E.mono s1) fun vs H2 s2 r2 => ?_
  exact q _ H2 (s1.trans s2) (.cons (r1.mono s2) r2)
/-- arguments that are data -/
def Dd (C : Addr) (X : Cx) (δ : Dn) (es : List Expr) (ds : List D) : Prop := ∀ (σ : L2.St) (H : Hp) (Q : List V → Hp → Prop), En X.K C H σ δ → (∀ vs H', Same H H' → Rps X.K C H' vs ds → Q vs H') → wA X es σ H Q
theorem dd_nil : Dd C X δ [] [] := fun σ H Q E q => ⟨_, pa_nil, q _ H (Same.refl H) .nil⟩
theorem dd_cons {es : List Expr} {d : D} {ds : List D} (h : De C X δ e (.d d)) (hr : Dd C X δ es ds) (hs : starEach (e :: es) X.env = (false, eval e X.env) :: starEach es X.env := by rfl) : Dd C X δ (e :: es) (d :: ds) := fun σ H Q E q => by
  refine ⟨_, pa_cons pe_w pa_w hs, h σ H _ E fun v H1 s1 r1 => ?_⟩
  refine hr σ H1 _ (E.mono s1) fun vs H2 s2 r2 => ?_
  exact q _ H2 (s1.trans s2) (.cons (Rp.mono (.of s2) r1) r2)
theorem de_tup {es : List Expr} {ds : List D} {x1} (h : Dd C X δ es ds) (hz : ds.length ≤ 100000 := by simp) : De C X δ (.Tuple es x1 pos) (.d (.tup ds)) := fun σ H Q E q => by
  refine ⟨_, pe_tup pa_w, h σ H _ E fun vs H1 s1 rs => ?_⟩
  refine ⟨by rw [rs.length]; exact szl hz, fun p hp => ?_⟩
  have sn := same_new (o := .tup vs) hp
  exact q _ _ (s1.trans sn) (.tup (SqT.of upd_same) (rs.mono (.of sn)))
theorem dl_lst {es : List Expr} {ds : List D} (h : Dd C X δ es ds) (hz : ds.length ≤ 100000 := by simp) : Dl C X δ (.List es pos) ds := fun σ H Q E q => by
  refine ⟨_, pe_lst pa_w, h σ H _ E fun vs H1 s1 rs => ?_⟩
  refine ⟨by rw [rs.length]; exact szl hz, fun p hp => ?_⟩
  have sn := same_new (o := .lst vs) hp
  exact q p vs _ (s1.free hp) (s1.trans sn) upd_same (rs.mono (.of sn))
theorem dv (i : Nat) {x : Str} {w : W} (hN : X.N[i]? = some x) (h : δ[i]? = some (some w)) (hv : Vis X.env.scope x := by first | exact Or.inl rfl | exact Or.inr (Or.inl rfl) | exact Or.inr (Or.inr rfl)) (hd : (x == ("__debug__" : Str)) = false := by decide) (hcd : (x == ("__classdict__" : Str)) = false := by decide) :
    De C X δ (.Name x pos) w := de_var hN hv h hd hcd
/-! and, or, not, if as values; tests -/
theorem de_one {op} {w : W} (h : De C X δ a w) : De C X δ (.BoolOp op [a] pos) w := fun σ H Q E q => ⟨_, pe_one pe_w, h σ H Q E q⟩
theorem de_and {rest : List Expr} {x y : Bool} (h : De C X δ a (.d (.bl x))) (hr : x = true → De C X δ (.BoolOp .And (b :: rest) pos) (.d (.bl y))) : De C X δ (.BoolOp .And (a :: b :: rest) pos) (.d (.bl (x && y))) := fun σ H Q E q => by
  refine ⟨_, pe_and pe_w pe_w, h σ H _ E fun v H1 s1 r1 => ?_⟩
  cases r1
  refine ⟨x, rfl, ?_⟩
  cases x with
  | false => exact iteF (q _ H1 s1 (.bl _))
  | true => exact iteT (hr rfl σ H1 Q (E.mono s1) fun v H2 s2 r2 => q v H2 (s1.trans s2) r2)
theorem de_or {rest : List Expr} {x y : Bool} (h : De C X δ a (.d (.bl x))) (hr : x = false → De C X δ (.BoolOp .Or (b :: rest) pos) (.d (.bl y))) : De C X δ (.BoolOp .Or (a :: b :: rest) pos) (.d (.bl (x || y))) := fun σ H Q E q => by
  refine ⟨_, pe_or pe_w pe_w, h σ H _ E fun v H1 s1 r1 => ?_⟩
  cases r1
  refine ⟨x, rfl, ?_⟩
  cases x with
  | true => exact iteT (q _ H1 s1 (.bl _))
  | false => exact iteF (hr rfl σ H1 Q (E.mono s1) fun v H2 s2 r2 => q v H2 (s1.trans s2) r2)
theorem de_not {x : Bool} (h : De C X δ a (.d (.bl x))) : De C X δ (.UnaryOp .Not a pos) (.d (.bl (!x))) := fun σ H Q E q => by
  refine ⟨_, pe_not pe_w, h σ H _ E fun v H1 s1 r1 => ?_⟩
  cases r1
  exact ⟨x, rfl, q _ H1 s1 (.bl _)⟩
theorem dt_val {x : Bool} (h : De C X δ e (.d (.bl x))) (he : ∀ whole, isTrue e X.env whole = (do let v ← whole; standAt e.pos; holding [v] (truthy v)) := by intro _; rfl) : Dt C X δ e x := fun σ H Q E q => by
  refine ⟨_, pt_val pe_w he, h σ H _ E fun v H1 s1 r1 => ?_⟩
  cases r1
  exact ⟨x, rfl, q H1 s1⟩
theorem dt_not {x : Bool} (h : Dt C X δ a x) : Dt C X δ (.UnaryOp .Not a pos) (!x) := fun σ H Q E q => ⟨_, pt_not pt_w, h σ H _ E fun H1 s1 => q H1 s1⟩
/-- a chain of tests -/
def wW (X : Cx) (e : Expr) : TT := fun σ H Q => ∃ t, PW X e t ∧ t σ H Q
theorem pw_w {e : Expr} : PW X e (wW X e) := ⟨fun wh pins s σ H Q I ⟨_, h, q⟩ => h.run wh pins s σ H Q I q⟩
def Dw (C : Addr) (X : Cx) (δ : Dn) (e : Expr) (b : Bool) : Prop := ∀ (σ : L2.St) (H : Hp) (Q : Bool → Hp → Prop), En X.K C H σ δ → (∀ H', Same H H' → Q b H') → wW X e σ H Q
theorem dw_and1 {x : Bool} (h : Dt C X δ a x) : Dw C X δ (.BoolOp .And [a] pos) x := fun σ H Q E q => ⟨_, pw_and1 pt_w, h σ H Q E q⟩
theorem dw_or1 {x : Bool} (h : Dt C X δ a x) : Dw C X δ (.BoolOp .Or [a] pos) x := fun σ H Q E q => ⟨_, pw_or1 pt_w, h σ H Q E q⟩
theorem dw_and {rest : List Expr} {x y : Bool} (h : Dt C X δ a x) (hr : x = true → Dw C X δ (.BoolOp .And (b :: rest) pos) y) : Dw C X δ (.BoolOp .And (a :: b :: rest) pos) (x && y) := fun σ H Q E q => by
  refine ⟨_, pw_and pt_w pw_w, h σ H _ E fun H1 s1 => ?_⟩
  cases x with
  | false => exact iteF (q H1 s1)
  | true => exact iteT (hr rfl σ H1 Q (E.mono s1) fun H2 s2 => q H2 (s1.trans s2))
theorem dw_or {rest : List Expr} {x y : Bool} (h : Dt C X δ a x) (hr : x = false → Dw C X δ (.BoolOp .Or (b :: rest) pos) y) : Dw C X δ (.BoolOp .Or (a :: b :: rest) pos) (x || y) := fun σ H Q E q => by
  refine ⟨_, pw_or pt_w pw_w, h σ H _ E fun H1 s1 => ?_⟩
  cases x with
  | true => exact iteT (q H1 s1)
  | false => exact iteF (hr rfl σ H1 Q (E.mono s1) fun H2 s2 => q H2 (s1.trans s2))
theorem Dw.t {x : Bool} (h : Dw C X δ e x) : Dt C X δ e x := fun σ H Q E q => ⟨_, pw_w.pt, h σ H Q E q⟩
theorem de_if {k : Bool} {w : W} (h : Dt C X δ c k) (h1 : k = true → De C X δ a w) (h2 : k = false → De C X δ b w) : De C X δ (.IfExp c a b pos) w := fun σ H Q E q => by
  refine ⟨_, pe_ifExp pt_w pe_w pe_w, h σ H _ E fun H1 s1 => ?_⟩
  cases k with
  | true => exact iteT (h1 rfl σ H1 Q (E.mono s1) fun v H2 s2 r2 => q v H2 (s1.trans s2) r2)
  | false => exact iteF (h2 rfl σ H1 Q (E.mono s1) fun v H2 s2 r2 => q v H2 (s1.trans s2) r2)
theorem de_ifT {w : W} (h : Dt C X δ c true) (h1 : De C X δ a w) : De C X δ (.IfExp c a b pos) w := de_if h (fun _ => h1) fun z => nomatch z
theorem de_ifF {w : W} (h : Dt C X δ c false) (h2 : De C X δ b w) : De C X δ (.IfExp c a b pos) w := de_if h (fun z => nomatch z) fun _ => h2
theorem Dt.is {k k' : Bool} (h : Dt C X δ e k) (q : k = k') : Dt C X δ e k' := q ▸ h
end
end OP

set_option Elab.async false
set_option linter.all false
set_option maxRecDepth 100000
set_option maxHeartbeats 4000000
/-! OpC: calls, attributes, what is walked, comprehensions -/
namespace OP
open PySem PySem.Spec PyProof.Rows L2
/-! ### promises by data -/
def spD (C : Addr) (K : PySem.W.Frag) (R : List W → W → Prop) : Sp := fun vs H Q _ => ∃ ws w, Paired (Rw K C H) vs ws ∧ R ws w ∧ ∀ v H', Same H H' → Rw K C H' v w → Q v H'
def Okf (P : Program) (w : World) (K : PySem.W.Frag) (mg : Str → Option Value) (base : Heap) (k : Nat) (x : Str) (sp : Sp) : Prop :=
  ∃ f fd ps, mg x = some (.ref f) ∧ PySem.W.keepIn K (.ref f) = true ∧ FnOk P w K mg base CX0 k f fd ps sp ∧ Binds K fd ps []
theorem Okf.mono {P : Program} {w : World} {K : PySem.W.Frag} {mg : Str → Option Value} {base : Heap} {k j : Nat} {x : Str} {sp : Sp} (F : Okf P w K mg base k x sp) (h : k ≤ j) : Okf P w K mg base j x sp := by
  obtain ⟨f, fd, ps, a, b, c, d⟩ := F
  exact ⟨f, fd, ps, a, b, c.mono h, d⟩
section
variable {C : Addr} {X : Cx} {δ : Dn} {a b c e : Expr} {pos p q : Pos}
/-- a call of a def of one's own, by any promise, at the level of readings -/
theorem wE_call {x : Str} {k : Nat} {sp : Sp} {es : List Expr} (F : Okf X.prog X.w X.K X.mg X.base k x sp) (hr : Room k X.A) {σ : L2.St} {H : Hp} {Q : VK} (h : wA X (e :: es) σ H fun vs H1 => sp vs H1 Q E0) (hg : Gl X x := by rfl) (hdb : (x == ("__debug__" : Str)) = false := by decide)
    (he : starEach (e :: es) X.env = (false, eval e X.env) :: starEach es X.env := by rfl) (hpl : (backTo pos (starEach es X.env)).any (·.1) = false := by rfl) : wE X (.Call (.Name x p) (e :: es) [] pos) σ H Q := by
  obtain ⟨f, fd, ps, hm, hk, Fo, hb⟩ := F
  refine ⟨_, pe_call Fo hr hg hm hk hb .nil pass0 pa_w hdb he hpl, ?_⟩
  show wA X (e :: es) σ H fun vs H1 => sp (vs ++ []) H1 Q E0
  simp only [List.append_nil]
  exact h
theorem de_call {x : Str} {k : Nat} {R : List W → W → Prop} {es : List Expr} {ws : List W} {w : W} (F : Okf X.prog X.w X.K X.mg X.base k x (spD C X.K R)) (hr : Room k X.A) (ha : Da C X δ (e :: es) ws) (h : R ws w) (hg : Gl X x := by rfl) (hdb : (x == ("__debug__" : Str)) = false := by decide)
    (he : starEach (e :: es) X.env = (false, eval e X.env) :: starEach es X.env := by rfl) (hpl : (backTo pos (starEach es X.env)).any (·.1) = false := by rfl) : De C X δ (.Call (.Name x p) (e :: es) [] pos) w := fun σ H Q E q =>
  wE_call F hr (ha σ H _ E fun vs H1 s1 r1 => ⟨ws, w, r1, h, fun v H2 s2 r2 => q v H2 (s1.trans s2) r2⟩) hg hdb he hpl
theorem de_callB {x : Str} {id : String} {es : List Expr} {ws : List W} {w : W} (r : DC C X (.builtin id) ws w) (hm : X.mg x = none) (ha : Da C X δ (e :: es) ws) (hg : Gl X x := by rfl) (hv : bootBuiltins x = some (.builtin id) := by decide +kernel) (hn : x ≠ "__name__" := by decide) (hdb : (x == ("__debug__" : Str)) = false := by decide)
    (he : starEach (e :: es) X.env = (false, eval e X.env) :: starEach es X.env := by rfl) (hpl : (backTo pos (starEach es X.env)).any (·.1) = false := by rfl) : De C X δ (.Call (.Name x p) (e :: es) [] pos) w := fun σ H Q E q => by
  obtain ⟨r, ho, hr⟩ := r
  refine ⟨_, pe_callB ho hg hm hv pa_w hn hdb he hpl, ha σ H _ E fun vs H1 s1 r1 => ?_⟩
  exact hr H1 vs Q r1 fun v H2 s2 r2 => q v H2 (s1.trans s2) r2
theorem de_callTy {x : Str} {id : String} {es : List Expr} {ws : List W} {w : W} (r : DC C X (.type id) ws w) (hm : X.mg x = none) (ha : Da C X δ (e :: es) ws) (hg : Gl X x := by rfl) (hv : bootBuiltins x = some (.type id) := by decide +kernel) (hn : x ≠ "__name__" := by decide) (hdb : (x == ("__debug__" : Str)) = false := by decide)
    (he : starEach (e :: es) X.env = (false, eval e X.env) :: starEach es X.env := by rfl) (hpl : (backTo pos (starEach es X.env)).any (·.1) = false := by rfl) : De C X δ (.Call (.Name x p) (e :: es) [] pos) w := fun σ H Q E q => by
  obtain ⟨r, ho, hr⟩ := r
  refine ⟨_, pe_callTy ho hg hm hv pa_w hn hdb he hpl, ha σ H _ E fun vs H1 s1 r1 => ?_⟩
  exact hr H1 vs Q r1 fun v H2 s2 r2 => q v H2 (s1.trans s2) r2
theorem bb_len : bootBuiltins "len" = some (.builtin "len") := by decide +kernel
theorem bb_all : bootBuiltins "all" = some (.builtin "all") := by decide +kernel
theorem bb_any : bootBuiltins "any" = some (.builtin "any") := by decide +kernel
theorem bb_isi : bootBuiltins "isinstance" = some (.builtin "isinstance") := by decide +kernel
theorem bb_tuple : bootBuiltins "tuple" = some (.type "tuple") := by decide +kernel
theorem bb_list : bootBuiltins "list" = some (.type "list") := by decide +kernel
theorem bb_int : bootBuiltins "int" = some (.type "int") := by decide +kernel
theorem bb_bool : bootBuiltins "bool" = some (.type "bool") := by decide +kernel
theorem bb_str : bootBuiltins "str" = some (.type "str") := by decide +kernel
theorem bb_dict : bootBuiltins "dict" = some (.type "dict") := by decide +kernel
/-! len, all, any, tuple -/
theorem dc_lenT {xs : List D} : DC C X (.builtin "len") [.d (.tup xs)] (.d (.int (xs.length : Int))) := ⟨_, call_len_seq, fun H vs Q r q => by
  cases r with
  | cons r1 t =>
    cases t
    cases r1 with
    | @tup a us _ hs rs =>
      refine ⟨a, us, rfl, .inr hs, ?_⟩
      rw [rs.length]
      exact q _ H (Same.refl H) (.int _)⟩
theorem dc_lenL {xs : List D} : DC C X (.builtin "len") [.l xs] (.d (.int (xs.length : Int))) := ⟨_, call_len_seq, fun H vs Q r q => by
  cases r with
  | cons r1 t =>
    cases t
    obtain ⟨a, us, rfl, hs, rs⟩ := r1
    refine ⟨a, us, rfl, .inl hs, ?_⟩
    rw [rs.length]
    exact q _ H (Same.refl H) (.int _)⟩
theorem dc_all (hc : X.calm = true) {bs : List Bool} : DC C X (.builtin "all") [.l (bs.map D.bl)] (.d (.bl (bs.all id))) := ⟨_, cr_all hc, fun H vs Q r q => by
  cases r with
  | cons r1 t =>
    cases t
    obtain ⟨a, us, rfl, hs, rs⟩ := r1
    have e := rs.bls
    subst e
    exact ⟨a, bs, rfl, hs, q _ H (Same.refl H) (.bl _)⟩⟩
theorem dc_any (hc : X.calm = true) {bs : List Bool} : DC C X (.builtin "any") [.l (bs.map D.bl)] (.d (.bl (bs.any id))) := ⟨_, cr_any hc, fun H vs Q r q => by
  cases r with
  | cons r1 t =>
    cases t
    obtain ⟨a, us, rfl, hs, rs⟩ := r1
    have e := rs.bls
    subst e
    exact ⟨a, bs, rfl, hs, q _ H (Same.refl H) (.bl _)⟩⟩
theorem dc_tupL {xs : List D} : DC C X (.type "tuple") [.l xs] (.d (.tup xs)) := ⟨_, call_tuple_of, fun H vs Q r q => by
  cases r with
  | cons r1 t =>
    cases t
    obtain ⟨a, us, rfl, hs, rs⟩ := r1
    refine ⟨a, us, rfl, .inl ⟨hs, fun p hp => ?_⟩⟩
    have s := same_new (o := .tup us) hp
    exact q _ _ s (.tup (SqT.of upd_same) (rs.mono (.of s)))⟩
theorem dl_listW {x : W} {xs : List D} (hx : x = .l xs ∨ x = .d (.tup xs)) (h : De C X δ e x) (hm : X.mg "list" = none) (hg : Gl X "list" := by rfl)
    (he : starEach [e] X.env = (false, eval e X.env) :: starEach [] X.env := by rfl) (hpl : (backTo pos (starEach [] X.env)).any (·.1) = false := by rfl) : Dl C X δ (.Call (.Name "list" p) [e] [] pos) xs := fun σ H Q E q => by
  refine ⟨_, pe_callTy call_list_of hg hm bb_list (pa_cons pe_w pa_nil he) (by decide) (by decide) he hpl, h σ H _ E fun v H1 s1 r1 => ?_⟩
  rcases hx with rfl | rfl
  · obtain ⟨a, us, rfl, hs, rs⟩ := r1
    refine ⟨a, us, rfl, .inl hs, fun l hl => ?_⟩
    have s := same_new (o := .lst us) hl
    exact q l us _ (s1.free hl) (s1.trans s) upd_same (rs.mono (.of s))
  · cases r1 with
    | @tup a us _ hs rs =>
      refine ⟨a, us, rfl, .inr hs, fun l hl => ?_⟩
      have s := same_new (o := .lst us) hl
      exact q l us _ (s1.free hl) (s1.trans s) upd_same (rs.mono (.of s))
/-! isinstance -/
def tyW : W → String
  | .d .non => "NoneType"
  | .d (.bl _) => "bool"
  | .d (.int _) => "int"
  | .d (.str _) => "str"
  | .d (.tup _) => "tuple"
  | .d (.play _) => "?"
  | .d (.raw _) => "?"
  | .l _ => "list"
  | .ll _ => "list"
  | .hand _ _ _ _ _ => "list"
theorem sqT_ty {K : PySem.W.Frag} {H : Hp} {a : Addr} {xs : List V} (h : SqT K H a xs) : TyX K H (.ref a) (.type "tuple") := by
  rcases h with (h | ⟨o, h⟩) | ⟨o, its, n, hk, hc, _⟩
  · exact .base (.tup h)
  · exact .fTuple h
  · exact .kTuple hk hc
theorem sqL_ty {K : PySem.W.Frag} {H : Hp} {a : Addr} {xs : List V} (h : SqL K H a xs) : TyX K H (.ref a) (.type "list") := by
  rcases h with (h | ⟨o, h⟩) | ⟨o, its, n, hk, hc, _⟩
  · exact .base (.lst h)
  · exact .base (.frz h)
  · exact .kList hk hc
theorem Rw.ty {K : PySem.W.Frag} {H : Hp} {v : V} {w : W} (h : Rw K C H v w) (hw : tyW w ≠ "?") : TyX K H v (.type (tyW w)) := by
  cases w with
  | d x =>
    cases h with
    | non => exact .base .non
    | bl b => exact .base (.bl b)
    | int i => exact .base (.int i)
    | str s => exact .base (.str s)
    | tup hs rs => exact sqT_ty hs
    | play => exact absurd rfl hw
    | raw v => exact absurd rfl hw
  | l xs =>
    obtain ⟨a, vs, rfl, hs, _⟩ := h
    exact sqL_ty hs
  | ll xs =>
    obtain ⟨a, vs, rfl, hs, _⟩ := h
    exact sqL_ty hs
  | hand ns i lf sd k =>
    obtain ⟨p, c, rfl, _, hs, _⟩ := h
    exact sqL_ty hs
theorem de_isi {T : Str} {n : String} {w : W} {k : Bool} (h : De C X δ e w) (hm : X.mg "isinstance" = none) (hmT : X.mg T = none) (hv : bootBuiltins T = some (.type n)) (hk : PySem.W.kitOne X.K (.type (tyW w)) (.type n) = some k := by rfl) (hw : tyW w ≠ "?" := by simp [tyW]) (hg : Gl X "isinstance" := by rfl) (hgT : Gl X T := by rfl)
    (hn : T ≠ "__name__" := by decide) (hdb : (T == ("__debug__" : Str)) = false := by decide)
    (he : starEach [e, .Name T q] X.env = (false, eval e X.env) :: starEach [.Name T q] X.env := by rfl) (he2 : starEach [.Name T q] X.env = (false, eval (.Name T q) X.env) :: starEach [] X.env := by rfl) (hpl : (backTo pos (starEach [.Name T q] X.env)).any (·.1) = false := by rfl) :
    De C X δ (.Call (.Name "isinstance" p) [e, .Name T q] [] pos) (.d (.bl k)) := fun σ H Q E q => by
  refine ⟨_, pe_callB call_isi hg hm bb_isi (pa_cons pe_w (pa_cons (pe_bltn (v := .ty n) hgT hmT hv rfl hn hdb) pa_nil he2) he) (by decide) (by decide) he hpl, h σ H _ E fun v H1 s1 r1 => ?_⟩
  exact ⟨v, .ty n, _, _, k, rfl, .ty n, r1.ty hw, hk, q _ H1 s1 (.bl k)⟩
theorem de_isi2 {T U : Str} {n m : String} {w : W} {k : Bool} {kk : Nat} {pt q2 : Pos} (h : De C X δ e w) (hm : X.mg "isinstance" = none) (hmT : X.mg T = none) (hmU : X.mg U = none)
    (hv : bootBuiltins T = some (.type n)) (hvU : bootBuiltins U = some (.type m)) (hk : PySem.W.kitAny X.K (.type (tyW w)) [.type n, .type m] = some k := by rfl) (hw : tyW w ≠ "?" := by simp [tyW]) (hg : Gl X "isinstance" := by rfl) (hgT : Gl X T := by rfl) (hgU : Gl X U := by rfl)
    (hn : T ≠ "__name__" := by decide) (hdb : (T == ("__debug__" : Str)) = false := by decide) (hnU : U ≠ "__name__" := by decide) (hdbU : (U == ("__debug__" : Str)) = false := by decide)
    (he : starEach [e, .Tuple [.Name T q, .Name U q2] kk pt] X.env = (false, eval e X.env) :: starEach [.Tuple [.Name T q, .Name U q2] kk pt] X.env := by rfl) (he2 : starEach [.Tuple [.Name T q, .Name U q2] kk pt] X.env = (false, eval (.Tuple [.Name T q, .Name U q2] kk pt) X.env) :: starEach [] X.env := by rfl)
    (he3 : starEach [.Name T q, .Name U q2] X.env = (false, eval (.Name T q) X.env) :: starEach [.Name U q2] X.env := by rfl) (he4 : starEach [.Name U q2] X.env = (false, eval (.Name U q2) X.env) :: starEach [] X.env := by rfl)
    (hpl : (backTo pos (starEach [.Tuple [.Name T q, .Name U q2] kk pt] X.env)).any (·.1) = false := by rfl) :
    De C X δ (.Call (.Name "isinstance" p) [e, .Tuple [.Name T q, .Name U q2] kk pt] [] pos) (.d (.bl k)) := fun σ H Q E q => by
  refine ⟨_, pe_callB call_isiT hg hm bb_isi (pa_cons pe_w (pa_cons (pe_tup (pa_cons (pe_bltn (v := .ty n) hgT hmT hv rfl hn hdb) (pa_cons (pe_bltn (v := .ty m) hgU hmU hvU rfl hnU hdbU) pa_nil he4) he3)) pa_nil he2) he) (by decide) (by decide) he hpl, h σ H _ E fun v H1 s1 r1 => ?_⟩
  refine ⟨szl (show 2 ≤ 100000 by decide), fun t ht => ?_⟩
  have s := same_new (o := .tup [.ty n, .ty m]) ht
  exact ⟨v, t, _, _, _, k, rfl, upd_same, .cons (.ty n) (.cons (.ty m) .nil), (r1.mono s).ty hw, hk, q _ _ (s1.trans s) (.bl k)⟩
/-! a play's attributes -/
theorem de_rows {rows : List Int} (h : De C X δ e (.d (.play rows))) (cl : Cls X.K C) (na : NoAttr X.K C "rows") (hb : attributeBase e "rows" X.env (eval e X.env) = eval e X.env := by rfl) : De C X δ (.Attribute e "rows" pos) (.d (.tup (rows.map D.int))) := fun σ H Q E q => by
  refine ⟨_, pe_fld pe_w hb, h σ H _ E fun v H1 s1 r1 => ?_⟩
  cases r1 with
  | @play a dx r _ hi hr => exact ⟨a, C, dx, _, .ref r, rfl, hi, cl, na, by rfl, q _ H1 s1 (.tup hr (Rps.ints rows))⟩
theorem de_kind {rows : List Int} (h : De C X δ e (.d (.play rows))) (cl : Cls X.K C) (na : NoAttr X.K C "kind") (hb : attributeBase e "kind" X.env (eval e X.env) = eval e X.env := by rfl) : De C X δ (.Attribute e "kind" pos) (.d (.str "levels")) := fun σ H Q E q => by
  refine ⟨_, pe_fld pe_w hb, h σ H _ E fun v H1 s1 r1 => ?_⟩
  cases r1 with
  | @play a dx r _ hi hr => exact ⟨a, C, dx, _, .str "levels", rfl, hi, cl, na, by rfl, q _ H1 s1 (.str _)⟩
/-! ### what is walked -/
def Kr (t : Bool) (H H' : Hp) : Prop := if t = true then Kt H H' else Same H H'
theorem Kr.of {t : Bool} {H H' : Hp} (h : Same H H') : Kr t H H' := by
  cases t with
  | true => exact Kt.of h
  | false => exact h
theorem Kr.trans {t : Bool} {H H1 H2 : Hp} (a : Kr t H H1) (b : Kr t H1 H2) : Kr t H H2 := by
  cases t with
  | true => exact Kt.trans a b
  | false => exact Same.trans a b
def Wk (t : Bool) (K : PySem.W.Frag) (C : Addr) (J : It) (H1 : Hp) (ws : List W) : Prop :=
  ∃ G : Hp → Prop, G H1 ∧ (∀ H2 H3, G H2 → Kr t H2 H3 → G H3) ∧ Walk J ws.length G (fun i H x H' => Same H H' ∧ ∃ w, ws[i]? = some w ∧ Rw K C H' x w)
def Di (t : Bool) (C : Addr) (X : Cx) (δ : Dn) (tg iter : Expr) (ws : List W) : Prop := ∀ (σ : L2.St) (H : Hp) (R : It → Hp → Prop), En X.K C H σ δ → (∀ J H1, Same H H1 → Wk t X.K C J H1 ws → R J H1) → wI X tg iter σ H R
theorem di_tup {tg : Expr} {xs : List D} (h : De C X δ e (.d (.tup xs))) : Di true C X δ tg e (xs.map W.d) := fun σ H R E q => by
  refine ⟨_, pi_tup pe_w, h σ H _ E fun v H1 s1 r1 => ?_⟩
  cases r1 with
  | @tup a vs _ hs rs =>
    refine ⟨a, rfl, ⟨vs, hs⟩, q _ H1 s1 ⟨fun H => SqT X.K H a vs ∧ Rps X.K C H vs xs, ⟨hs, rs⟩, fun H2 H3 g k => ⟨Kt.tup k g.1, g.2.mono k⟩, ?_⟩⟩
    have l := rs.length
    rw [List.length_map, ← l]
    refine walk_tup.mono (fun _ g => g.1) fun i H x H' hi g y => ?_
    obtain ⟨rfl, hx⟩ := y
    obtain ⟨d, hd, r⟩ := g.2.at hx
    exact ⟨Same.refl _, .d d, by rw [List.getElem?_map, hd]; rfl, r⟩
theorem di_list {tg : Expr} {xs : List D} (h : De C X δ e (.l xs)) : Di false C X δ tg e (xs.map W.d) := fun σ H R E q => by
  refine ⟨_, pi_list pe_w, h σ H _ E fun v H1 s1 r1 => ?_⟩
  obtain ⟨a, vs, rfl, hs, rs⟩ := r1
  refine ⟨a, rfl, ⟨vs, hs⟩, q _ H1 s1 ⟨fun H => SqL X.K H a vs ∧ Rps X.K C H vs xs, ⟨hs, rs⟩, fun H2 H3 g k => ⟨Same.seq k g.1, g.2.mono (.of k)⟩, ?_⟩⟩
  have l := rs.length
  rw [List.length_map, ← l]
  refine walk_list.mono (fun _ g => g.1) fun i H x H' hi g y => ?_
  obtain ⟨rfl, hx⟩ := y
  obtain ⟨d, hd, r⟩ := g.2.at hx
  exact ⟨Same.refl _, .d d, by rw [List.getElem?_map, hd]; rfl, r⟩
theorem Paired.at {α β : Type} {F : α → β → Prop} : ∀ {vs : List α} {ds : List β} {i : Nat} {v : α}, Paired F vs ds → vs[i]? = some v → ∃ d, ds[i]? = some d ∧ F v d
  | _, _, _, _, .nil, e => by simp at e
  | _, _, 0, _, .cons r _, e => ⟨_, rfl, by cases e; exact r⟩
  | _, _, i + 1, _, .cons _ t, e => Paired.at (i := i) t e
theorem di_ll {tg : Expr} {xs : List (List D)} (h : De C X δ e (.ll xs)) : Di false C X δ tg e (xs.map W.l) := fun σ H R E q => by
  refine ⟨_, pi_list pe_w, h σ H _ E fun v H1 s1 r1 => ?_⟩
  obtain ⟨a, vs, rfl, hs, rs⟩ := r1
  refine ⟨a, rfl, ⟨vs, hs⟩, q _ H1 s1 ⟨fun H => SqL X.K H a vs ∧ Paired (Rl X.K C H) vs xs, ⟨hs, rs⟩, fun H2 H3 g k => ⟨Same.seq k g.1, Paired.mapP g.2 fun _ _ z => Rl.mono k z⟩, ?_⟩⟩
  have l := Paired.length rs
  rw [List.length_map, ← l]
  refine walk_list.mono (fun _ g => g.1) fun i H x H' hi g y => ?_
  obtain ⟨rfl, hx⟩ := y
  obtain ⟨d, hd, r⟩ := Paired.at g.2 hx
  exact ⟨Same.refl _, .l d, by rw [List.getElem?_map, hd]; rfl, r⟩
/-- range(n) -/
def rangeW (n : Nat) : List W := (List.range n).map fun i => .d (.int (i : Nat))
theorem di_range {tg : Expr} {n : Nat} (hz : n ≤ 100000) (h : De C X δ e (.d (.int (n : Nat)))) (hm : X.mg "range" = none) (hg : Gl X "range" := by rfl) (hs : starEach [e] X.env = [(false, eval e X.env)] := by rfl) : Di true C X δ tg (.Call (.Name "range" p) [e] [] pos) (rangeW n) := fun σ H R E q => by
  refine ⟨_, pi_range1 hg hm (pa_cons pe_w pa_nil hs) hs, h σ H _ E fun v H1 s1 r1 => ?_⟩
  cases r1
  refine ⟨(n : Int), rfl, by omega, by omega, ?_⟩
  have e0 : ((n : Int)).toNat = n := by omega
  rw [e0]
  refine q _ H1 s1 ⟨fun _ => True, trivial, fun _ _ _ _ => trivial, ?_⟩
  unfold rangeW
  rw [List.length_map, List.length_range]
  refine (walk_range (lo := 0) (n := n)).mono (fun _ _ => trivial) fun i H x H' hi g y => ?_
  obtain ⟨rfl, rfl⟩ := y
  refine ⟨Same.refl _, .d (.int (i : Nat)), ?_, ?_⟩
  · rw [List.getElem?_map, List.getElem?_range hi]
    rfl
  · show Rp X.K C H' (V.int (0 + (i : Int))) (.int (i : Nat))
    rw [Int.zero_add]
    exact Rp.int _
/-- zip of two tuples -/
theorem di_zipT {tg : List Expr} {kk : Nat} {pt : Pos} {xs ys : List D} (h : De C X δ a (.d (.tup xs))) (h' : De C X δ b (.d (.tup ys))) (hm : X.mg "zip" = none) (hg : Gl X "zip" := by rfl) (hs : starEach [a, b] X.env = (false, eval a X.env) :: starEach [b] X.env := by rfl) (hs2 : starEach [b] X.env = (false, eval b X.env) :: starEach [] X.env := by rfl)
    (hpl : (backTo pos (starEach [b] X.env)).any (·.1) = false := by rfl) : Di true C X δ (.Tuple tg kk pt) (.Call (.Name "zip" p) [a, b] [] pos) ((xs.zip ys).map fun z => .d (.tup [z.1, z.2])) := fun σ H R E q => by
  refine ⟨_, RZ.pi_zipA hg hm (pa_cons pe_w (pa_cons pe_w pa_nil hs2) hs) hs hpl, h σ H _ E fun v H1 s1 r1 => h' σ H1 _ (E.mono s1) fun v' H2 s2 r2 => ?_⟩
  have r1' := r1.mono s2
  cases r1' with
  | @tup a vs _ hs rs =>
    cases r2 with
    | @tup a' vs' _ hs' rs' =>
      refine ⟨a, a', vs, vs', rfl, .inr ⟨hs, hs', q _ H2 (s1.trans s2) ⟨fun H => (SqT X.K H a vs ∧ Rps X.K C H vs xs) ∧ SqT X.K H a' vs' ∧ Rps X.K C H vs' ys, ⟨⟨hs, rs⟩, hs', rs'⟩, fun H2 H3 g k => ⟨⟨Kt.tup k g.1.1, g.1.2.mono k⟩, Kt.tup k g.2.1, g.2.2.mono k⟩, ?_⟩⟩⟩
      have l := rs.length
      have l' := rs'.length
      rw [List.length_map, List.length_zip, ← l, ← l']
      refine ⟨fun i H hi g => ?_, fun H g => ⟨vs, vs', g.1.1, g.2.1, by omega⟩, fun i H x H' hi g y => ?_⟩
      · have h1 : i < vs.length := by omega
        have h2 : i < vs'.length := by omega
        exact ⟨vs, vs', vs[i], vs'[i], g.1.1, g.2.1, by simp [h1], by simp [h2]⟩
      · obtain ⟨T, x1, y1, rfl, hn, rfl, f1, f2⟩ := y
        obtain ⟨d1, e1, q1⟩ := g.1.2.at (f1 _ g.1.1)
        obtain ⟨d2, e2, q2⟩ := g.2.2.at (f2 _ g.2.1)
        have s := same_new (o := .tup [x1, y1]) hn
        refine ⟨s, .d (.tup [d1, d2]), ?_, .tup (SqT.of upd_same) (.cons (q1.mono (.of s)) (.cons (q2.mono (.of s)) .nil))⟩
        rw [List.getElem?_map, (List.getElem?_zip_eq_some (z := (d1, d2))).mpr ⟨e1, e2⟩]
        rfl
end
end OP

set_option Elab.async false
set_option linter.all false
set_option maxRecDepth 100000
set_option maxHeartbeats 4000000
/-! OpE: enumerate over a tuple, over a list -/
namespace OP
open PySem PySem.Spec PyProof.Rows L2
set_option maxHeartbeats 4000000 in
theorem enum_newB {v : Value} {o : Obj} {Hh : Heap → Prop} (B : Begins v o Hh) :
    Meets (Builtin.«enumerate.__new__» ⟨[.type "enumerate", v], []⟩) (fun _ R s => Hh s.heap ∧
      R (.ok (.ret (.ref (s.heap.push o).objs.size))) { s with heap := (s.heap.push o).push { cls := .type "enumerate", data := .fields #[.none, .bool false, .ref s.heap.objs.size, rawInt 0, .none, .none] } }) :=
  .of_wp fun prog w A R s h => by
    obtain ⟨hp, g, d, tk, os⟩ := s
    obtain ⟨h1, h⟩ := h
    have hsub := sub_enumerate
    have nx : ∀ {A' : Around} {E : Value → Shared → Prop} {Q : Value → Shared → Prop}, Q (.ref hp.objs.size) ⟨hp.push o, g, d, tk, os⟩ → wpAny (model prog w) A' (pyIter v) Q E ⟨hp, g, d, tk, os⟩ :=
      fun z => B.iter prog w _ _ ⟨hp, g, d, tk, os⟩ _ h1 z
    wp_walk using nx
    refine wpAny_stack_any fun st => wpAny_pure ?_
    split
    · rename_i cc _ _ _ _ _
      cases (cc == Value.type "enumerate") <;> (wp_walk using nx; exact ⟨_, rfl, h⟩)
    · wp_walk using nx
      exact ⟨_, rfl, h⟩
theorem call_enumB {prog : Program} {w : World} {A : Around} {E : Value → Shared → Prop} {s : Shared} {t : Addr} {o : Obj} {Hh : Heap → Prop} {Q : Value → Shared → Prop} (B : Begins (.ref t) o Hh) (h1 : Hh s.heap)
    (h : ∀ h', IsEnum h' (s.heap.objs.size + 1) s.heap.objs.size 0 .none → h'.get? s.heap.objs.size = some o → (∀ b u, s.heap.get? b = some u → h'.get? b = some u) → Q (.ref (s.heap.objs.size + 1)) { s with heap := h' }) :
    wpAny (model prog w) A (call (.type "enumerate") [.ref t]) Q E s := by
  refine callType_new F.called_enumerate (by decide) (F.typeCall_enumerate_1 _) (F.newCall_enumerate_1 _) (fun obj => F.args_object_init_2 obj _) F.entry_enumerate_new (enum_newB B) ⟨h1, ?_⟩
  have sz : (s.heap.push o).objs.size = s.heap.objs.size + 1 := Heap.size_push ..
  show _ ∧ _
  rw [sz]
  have at1 : IsEnum ((s.heap.push o).push { cls := .type "enumerate", data := .fields #[.none, .bool false, .ref s.heap.objs.size, rawInt 0, .none, .none] }) (s.heap.objs.size + 1) s.heap.objs.size 0 .none := by
    have z := Heap.get?_push_size (s.heap.push o) (o := { cls := .type "enumerate", data := .fields #[.none, .bool false, .ref s.heap.objs.size, rawInt 0, .none, .none] }) rfl
    rw [sz] at z
    exact z
  exact ⟨⟨_, at1, rfl⟩, h _ at1 (Heap.get?_push_of_some _ (Heap.get?_push_size _ B.free)) fun b u z => Heap.get?_push_of_some _ (Heap.get?_push_of_some _ z)⟩
/-- the tuple at a, each item in a new pair with its place -/
def IteT (K : PySem.W.Frag) (a : Addr) : It where
  go := fun i H => ∃ (xs : List V) (x : V), SqT K H a xs ∧ xs[i]? = some x
  yld := fun i H v H' => ∃ T x, v = .ref T ∧ H T = none ∧ H' = upd H T (.tup [.int (i : Nat), x]) ∧ ∀ xs, SqT K H a xs → xs[i]? = some x
  stop := fun i H => ∃ xs : List V, SqT K H a xs ∧ xs.length = i
theorem turn_enumT {P : Program} {w : World} {K : PySem.W.Frag} {elts : List Expr} {kk : Nat} {tpos : Pos} (a e it : Addr) :
    Turn P w K (.Tuple elts kk tpos) (IteT K a) [e, it] e (fun i h => (∃ old, IsEnum h e it ((i : Nat) : Int) old) ∧ h.IsTupleIter it a i ∧ e ≠ it) where
  mem := List.mem_cons_self
  obj := fun i h st b hb => by
    obtain ⟨⟨old, he⟩, ⟨ob, ho, hc, hd⟩, _⟩ := st
    rcases List.mem_cons.mp hb with z | z
    · subst z
      exact ⟨_, he, fun v q => nomatch q⟩
    · have z := List.mem_singleton.mp z
      subst z
      exact ⟨ob, ho, fun v q => by rw [hd] at q; cases q⟩
  keep := fun i h h' st k => ⟨let ⟨old, he⟩ := st.1; ⟨old, k e List.mem_cons_self _ he⟩, st.2.1.at fun ob z => k it (List.mem_cons_of_mem _ List.mem_cons_self) ob z, st.2.2⟩
  item := by
    intro X hP hw hK hc i pins s σ H E I hf st hg
    subst hP hw hK
    obtain ⟨⟨old, he⟩, hit, hne⟩ := st
    obtain ⟨xs, x, hq, hx⟩ := hg
    obtain ⟨its, rv, pt, hz⟩ := I.tuple hq
    obtain ⟨u, hu, ru⟩ := rv.get hx
    have hl := rv.length
    have hie : i < its.toArray.size := by
      have z := (List.getElem?_eq_some_iff.mp hx).1
      simp only [List.size_toArray]
      omega
    have nai : a ≠ it := by
      intro z
      subst z
      obtain ⟨o1, e1, c1, _⟩ := id pt
      obtain ⟨o2, e2, c2, _⟩ := id hit
      rw [e1] at e2
      cases e2
      rw [c1] at c2
      exact absurd (Value.type.inj c2) (by decide)
    have nae : a ≠ e := by
      intro z
      subst z
      obtain ⟨o1, e1, c1, _⟩ := id pt
      have e2 : s.heap.get? a = some _ := he
      rw [e1] at e2
      cases e2
      exact absurd (Value.type.inj c1) (by decide)
    have lte : e < s.heap.objs.size := Heap.lt_size he
    have lti : it < s.heap.objs.size := by
      obtain ⟨_, z, _⟩ := id hit
      exact Heap.lt_size z
    refine wpAny_pyNext_enum_itemD (Draws.tuple (A := X.A.in1) (show X.A.in1.handled = none from I.ok.hd hc) it a nai its.toArray) he ⟨hit, pt⟩ hie hne (fun z => ?_) fun y h' tk hy ho st' hT hsz hk => ?_
    · rcases List.mem_cons.mp z with z | z
      · exact hne z
      · exact nae (List.mem_singleton.mp z).symm
    · have eu : y = u := by
        have z : its.toArray[i]? = some u := by simpa using hu
        exact Option.some.inj ((show its.toArray[i]? = some y from hy).symm.trans z)
      subst eu
      refine ⟨_, rfl, wpAny_letOwnedTupleGo_enum (s := { s with heap := h', toks := tk + 1 }) ho fun h2 he2 sb => ?_⟩
      have hT2 : h2.get? s.heap.objs.size = some { cls := .type "tuple", data := .seq #[.int i tk, y] } := (sb.2 _ (Nat.ne_of_gt lte)).trans hT
      have new : ObjOk X.prog X.w (upd H s.heap.objs.size (.tup [.int (i : Nat), x])) h2 s.heap.objs.size (.tup [.int (i : Nat), x]) :=
        ⟨szl (show 2 ≤ 100000 by decide), [.int i tk, y], .cons ⟨_, rfl⟩ (.cons ru .nil), ⟨_, hT2, rfl, _, rfl⟩⟩
      have I1 : Inv X pins σ (upd H s.heap.objs.size (.tup [.int (i : Nat), x])) { s with heap := h2, toks := tk + 1 } :=
        I.turnedNew (ch := [e, it]) (fun b ob hb z => (sb.2 b fun z' => hb (z' ▸ List.mem_cons_self)).trans (hk b ob (fun z' => hb (z' ▸ List.mem_cons_self)) (fun z' => hb (z' ▸ List.mem_cons_of_mem _ List.mem_cons_self)) z)) hf (Nat.le_refl _) new
      refine ⟨.ref s.heap.objs.size, _, I1, rfl, ⟨_, x, rfl, I.hok.fresh (Nat.le_refl _), rfl, fun ys hy' => by rw [I.tuple_inj hy' hq]; exact hx⟩, ⟨⟨y, ?_⟩, st'.1.at fun ob z => (sb.2 it hne.symm).trans z, hne⟩, fun b hb => ?_⟩
      · have z : ((i + 1 : Nat) : Int) = (i : Int) + 1 := by omega
        rw [z]
        exact he2
      · have lb : b < s.heap.objs.size := by
          rcases List.mem_cons.mp hb with z | z
          · rw [z]; exact lte
          · rw [List.mem_singleton.mp z]; exact lti
        rw [upd_ne (Nat.ne_of_lt lb)]
        exact (hf b hb).1
  done := by
    intro X hP hw hK hc i pins s σ H E I hf st hg
    subst hP hw hK
    obtain ⟨⟨old, he⟩, hit, hne⟩ := st
    obtain ⟨xs, hq, hx⟩ := hg
    obtain ⟨its, rv, pt, hz⟩ := I.tuple hq
    have hl := rv.length
    obtain ⟨f0, f1, f2, f3, f4, f5⟩ := hf it (List.mem_cons_of_mem _ List.mem_cons_self)
    have nai : a ≠ it := by
      intro z
      subst z
      obtain ⟨o1, e1, c1, _⟩ := id pt
      obtain ⟨o2, e2, c2, _⟩ := id hit
      rw [e1] at e2
      cases e2
      rw [c1] at c2
      exact absurd (Value.type.inj c2) (by decide)
    have hsz : i = its.toArray.size := by
      rw [List.size_toArray]
      omega
    subst hsz
    exact wpAny_pyNext_enum_endD (Draws.tuple (A := X.A.in1) (show X.A.in1.handled = none from I.ok.hd hc) it a nai its.toArray) he ⟨hit, pt⟩ fun h' eb => ⟨rfl, I.turned (t' := s.toks) (fun b o hb z => eb b o hb z) f0 f1 f3 f4 f5⟩
  self := fun A i s Q E st h => let ⟨⟨_, he⟩, _⟩ := st; wpAny_pyIter_enum he h
def iEnumT (K : PySem.W.Frag) (ta : TA) : TI := fun σ H R => ta σ H fun vs H1 => ∃ a xs, vs = [.ref a] ∧ SqT K H1 a xs ∧ R (IteT K a) H1
section
variable {C : Addr} {X : Cx} {δ : Dn} {e : Expr} {pos p : Pos}
theorem pi_enumT {te : TA} {tpos : Pos} {elts : List Expr} {kk : Nat} (hg : Gl X "enumerate") (hm : X.mg "enumerate" = none) (he : PA X [e] te) (hs : starEach [e] X.env = [(false, eval e X.env)] := by rfl) :
    PI X (.Tuple elts kk tpos) (.Call (.Name "enumerate" p) [e] [] pos) (iEnumT X.K te) := by
  refine ⟨fun pins s σ H R I h => ?_⟩
  refine Call_ (ld_blt I hg hm boot_enumerate (PyProof.Rows.callWith_type1 (thn (he.run pos pins s σ H _ I h) fun us s1 ⟨vs, H1, I1, r1, q1⟩ => ?_) hs rfl))
  obtain ⟨a, xs, ex, hq, q⟩ := q1
  subst ex
  cases r1 with
  | cons r rr =>
    cases rr
    cases r
    obtain ⟨its, rv, pt, hz⟩ := I1.tuple hq
    refine call_enumB (begins_tuple a its.toArray) (show s1.heap.IsTuple a its.toArray from pt) fun h' he' hit hk => wpAny_pyIter_enum he' ?_
    have I2 : Inv X pins σ H1 { s1 with heap := h' } := I1.kept (t' := s1.toks) hk
    refine ⟨s1.heap.objs.size + 1, [s1.heap.objs.size + 1, s1.heap.objs.size], _, _, H1, rfl, I2, turn_enumT a (s1.heap.objs.size + 1) s1.heap.objs.size, ⟨⟨.none, he'⟩, ⟨_, hit, rfl, rfl⟩, Nat.succ_ne_self _⟩, fun b hb => ?_, q⟩
    have hle : s1.heap.objs.size ≤ b := by
      rcases List.mem_cons.mp hb with z | z
      · rw [z]; exact Nat.le_succ _
      · rw [List.mem_singleton.mp z]; exact Nat.le_refl _
    exact I1.fpOk hle (I1.hok.fresh hle)
/-- pairs of a place and what stands there -/
def enumD (xs : List D) : List W := xs.zipIdx.map fun z => .d (.tup [.int (z.2 : Nat), z.1])
theorem enumD_at {xs : List D} {i : Nat} {d : D} (h : xs[i]? = some d) : (enumD xs)[i]? = some (.d (.tup [.int (i : Nat), d])) := by
  unfold enumD
  rw [List.getElem?_map, List.getElem?_zipIdx, h]
  simp
theorem enumD_length (xs : List D) : (enumD xs).length = xs.length := by
  unfold enumD
  rw [List.length_map, List.length_zipIdx]
theorem di_enumT {tg : List Expr} {kk : Nat} {pt : Pos} {xs : List D} (h : De C X δ e (.d (.tup xs))) (hm : X.mg "enumerate" = none) (hg : Gl X "enumerate" := by rfl) (hs : starEach [e] X.env = [(false, eval e X.env)] := by rfl) :
    Di true C X δ (.Tuple tg kk pt) (.Call (.Name "enumerate" p) [e] [] pos) (enumD xs) := fun σ H R E q => by
  refine ⟨_, pi_enumT hg hm (pa_cons pe_w pa_nil hs) hs, h σ H _ E fun v H1 s1 r1 => ?_⟩
  cases r1 with
  | @tup a vs _ hq rs =>
    refine ⟨a, vs, rfl, hq, q _ H1 s1 ⟨fun H => SqT X.K H a vs ∧ Rps X.K C H vs xs, ⟨hq, rs⟩, fun H2 H3 g k => ⟨Kt.tup k g.1, g.2.mono k⟩, ?_⟩⟩
    have l := rs.length
    rw [enumD_length, ← l]
    refine ⟨fun i H hi g => ⟨vs, vs[i], g.1, List.getElem?_eq_getElem hi⟩, fun H g => ⟨vs, g.1, rfl⟩, fun i H x H' hi g y => ?_⟩
    obtain ⟨T, x1, rfl, hn, rfl, f1⟩ := y
    obtain ⟨d, hd, r⟩ := g.2.at (f1 _ g.1)
    have s := same_new (o := .tup [.int (i : Nat), x1]) hn
    exact ⟨s, _, enumD_at hd, .tup (SqT.of upd_same) (.cons (.int _) (.cons (r.mono (.of s)) .nil))⟩
theorem di_enumL {tg : List Expr} {kk : Nat} {pt : Pos} {xs : List D} (h : De C X δ e (.l xs)) (hm : X.mg "enumerate" = none) (hg : Gl X "enumerate" := by rfl) (hs : starEach [e] X.env = [(false, eval e X.env)] := by rfl) :
    Di false C X δ (.Tuple tg kk pt) (.Call (.Name "enumerate" p) [e] [] pos) (enumD xs) := fun σ H R E q => by
  refine ⟨_, pi_enum hg hm (pa_cons pe_w pa_nil hs) hs, h σ H _ E fun v H1 s1 r1 => ?_⟩
  obtain ⟨a, vs, rfl, hq, rs⟩ := r1
  refine ⟨a, vs, rfl, hq, q _ H1 s1 ⟨fun H => SqL X.K H a vs ∧ Rps X.K C H vs xs, ⟨hq, rs⟩, fun H2 H3 g k => ⟨Same.seq k g.1, g.2.mono (.of k)⟩, ?_⟩⟩
  have l := rs.length
  rw [enumD_length, ← l]
  refine walk_enum.mono (fun _ g => g.1) fun i H x H' hi g y => ?_
  obtain ⟨T, x1, x2, rfl, hn, rfl, f1, f2⟩ := y
  obtain rfl := Option.some.inj f1
  obtain ⟨d, hd, r⟩ := g.2.at f2
  have s := same_new (o := .tup [.int (i : Nat), x2]) hn
  exact ⟨s, _, enumD_at hd, .tup (SqT.of upd_same) (.cons (.int _) (.cons (r.mono (.of s)) .nil))⟩
end
end OP

set_option Elab.async false
set_option linter.all false
set_option maxRecDepth 100000
set_option maxHeartbeats 4000000
/-! OpF: targets, comprehensions, statements by data -/
namespace OP
open PySem PySem.Spec PyProof.Rows L2
/-! ### targets -/
def Dg (K : PySem.W.Frag) (C : Addr) (g : TG) (w : W) (δ δ' : Dn) (vs : List Nat) : Prop :=
  ∀ (v : V) (σ : L2.St) (H : Hp) (Q : L2.St → Hp → Prop), Rw K C H v w → En K C H σ δ → (∀ σ', En K C H σ' δ' → wipe σ' vs = wipe σ vs → Q σ' H) → g v σ H Q
section
variable {K : PySem.W.Frag} {C : Addr} {δ : Dn} {vs : List Nat}
theorem dg_name {i : Nat} {w : W} (h : i ∈ vs := by decide) : Dg K C (gName i) w δ (δ.set i (some w)) vs := fun v σ H Q r E q => q _ (E.set r) (wipe_set σ h)
theorem dg_tup2 {i j : Nat} {x y : D} (hi : i ∈ vs := by decide) (hj : j ∈ vs := by decide) : Dg K C (gTup K 2 (gCons (gName i) (gCons (gName j) gNil))) (.d (.tup [x, y])) δ ((δ.set i (some (.d x))).set j (some (.d y))) vs := fun v σ H Q r E q => by
  cases r with
  | @tup a us _ hs rs =>
    cases rs with
    | cons r1 t =>
      cases t with
      | cons r2 t =>
        cases t
        refine ⟨a, _, rfl, hs, rfl, _, _, rfl, _, _, rfl, rfl, ?_⟩
        refine q _ ((E.set (w := .d x) r1).set (w := .d y) r2) ?_
        rw [wipe_set _ hj, wipe_set _ hi]
end
/-! ### comprehensions -/
section
variable {C : Addr} {X : Cx} {δ : Dn} {a b c e : Expr} {pos p : Pos}
/-- every turn of a comprehension, by data -/
def Turns (C : Addr) (X : Cx) (δ : Dn) (scope : Scope) (own : List (Str × Nat)) (g : TG) (ifs : List Expr) (elt : Expr) (ws : List W) (p : Nat → Bool) (f : Nat → D) : Prop :=
  ∀ (i : Nat) (w : W), ws[i]? = some w → ∃ δ', Dg X.K C g w (wipeD δ (own.map (·.2))) δ' (own.map (·.2)) ∧
    (∀ (s : Shared) (H : Hp) (Cc : Addr) (cl : List (Str × Addr)) (fp : List Addr), Dts C (X.blk s H scope (compEnvC scope cl Cc X.env) fp) δ' ifs (p i)) ∧
    (p i = true → ∀ (s : Shared) (H : Hp) (Cc : Addr) (cl : List (Str × Addr)) (fp : List Addr), De C (X.blk s H scope (compEnvC scope cl Cc X.env) fp) δ' elt (.d (f i)))
def given (n : Nat) (p : Nat → Bool) (f : Nat → D) : List D := ((List.range n).filter p).map f
theorem given_yes {n : Nat} {p : Nat → Bool} {f : Nat → D} (h : p n = true) : given (n + 1) p f = given n p f ++ [f n] := by
  unfold given
  rw [List.range_succ, List.filter_append, List.map_append]
  simp [h]
theorem given_no {n : Nat} {p : Nat → Bool} {f : Nat → D} (h : p n = false) : given (n + 1) p f = given n p f := by
  unfold given
  rw [List.range_succ, List.filter_append, List.map_append]
  simp [h]
theorem given_le (n : Nat) (p : Nat → Bool) (f : Nat → D) : (given n p f).length ≤ n := by
  unfold given
  rw [List.length_map]
  have := List.length_filter_le p (List.range n)
  rw [List.length_range] at this
  exact this
def teB (X : Cx) (scope : Scope) (elt : Expr) : TE := fun σ H Q => ∀ (s : Shared) (H0 : Hp) (Cc : Addr) (cl : List (Str × Addr)) (fp : List Addr), wE (X.blk s H0 scope (compEnvC scope cl Cc X.env) fp) elt σ H Q
def ttB (X : Cx) (scope : Scope) (ifs : List Expr) : TT := fun σ H Q => ∀ (s : Shared) (H0 : Hp) (Cc : Addr) (cl : List (Str × Addr)) (fp : List Addr), wTs (X.blk s H0 scope (compEnvC scope cl Cc X.env) fp) ifs σ H Q
theorem pe_teB {scope : Scope} {elt : Expr} (s : Shared) (H0 : Hp) (Cc : Addr) (cl : List (Str × Addr)) (fp : List Addr) : PE (X.blk s H0 scope (compEnvC scope cl Cc X.env) fp) elt (teB X scope elt) :=
  ⟨fun pins s' σ H Q I h => by
    obtain ⟨t, k, q⟩ := h s H0 Cc cl fp
    exact k.run pins s' σ H Q I q⟩
theorem pts_ttB {scope : Scope} {ifs : List Expr} (s : Shared) (H0 : Hp) (Cc : Addr) (cl : List (Str × Addr)) (fp : List Addr) : PTs (X.blk s H0 scope (compEnvC scope cl Cc X.env) fp) ifs (ttB X scope ifs) :=
  ⟨fun pins s' σ H Q I h => by
    obtain ⟨t, k, q⟩ := h s H0 Cc cl fp
    exact k.run pins s' σ H Q I q⟩
/-- a comprehension's reading -/
theorem lc_read {t : Bool} {elt tg iter : Expr} {ifs : List Expr} {scope : Scope} {own : List (Str × Nat)} {g : TG} {ws : List W} {p : Nat → Bool} {f : Nat → D} (hi : Di t C X δ tg iter ws) (hb : Turns C X δ scope own g ifs elt ws p f) (hz : ws.length ≤ 50000)
    {σ : L2.St} {H : Hp} {Q : VK} (E : En X.K C H σ δ) (q : ∀ l vs H', H l = none → Same H H' → H' l = some (.lst vs) → Rps X.K C H' vs (given ws.length p f) → Q (.ref l) H') :
    tLc (wI X tg iter) g (ttB X scope ifs) (teB X scope elt) (own.map (·.2)) σ H Q := by
  refine hi σ H _ E fun J H1 s1 wk => fun L hL => ?_
  obtain ⟨G, g1, gk, wk⟩ := wk
  have E1 := E.mono s1
  refine lc_it wk (fun i Hc => Same H1 Hc ∧ ∃ acc, Hc L = some (.lst acc) ∧ Rps X.K C Hc acc (given i p f)) ⟨same_new hL, [], upd_same, .nil⟩ (fun i Hc _ w => gk _ _ g1 (Kr.of w.1)) (fun i x Hc H' hi w y => ?_) fun Hc w => ?_
  · obtain ⟨sc, acc, hacc, rs⟩ := w
    obtain ⟨sy, w, hw, rw_⟩ := y
    obtain ⟨δ', dg, dt, de⟩ := hb i w hw
    have E' : En X.K C H' (wipe σ (own.map (·.2))) (wipeD δ (own.map (·.2))) := (E1.mono (sc.trans sy)).wipe _
    refine dg x _ H' _ rw_ E' fun σ2 E2 hw2 => ⟨by rw [hw2, wipe_idem], ?_⟩
    intro s H0 Cc cl fp
    refine dt s H0 Cc cl fp σ2 H' _ E2 fun H3 s3 => ?_
    cases hp : p i with
    | false =>
      refine iteF ⟨sc.trans (sy.trans s3), acc, (sy.trans s3) _ _ hacc, ?_⟩
      rw [given_no hp]
      exact rs.mono (.of (sy.trans s3))
    | true =>
      refine iteT ?_
      intro s' H0' Cc' cl' fp'
      refine de hp s' H0' Cc' cl' fp' σ2 H3 _ (E2.mono s3) fun v H4 s4 r4 => ?_
      have s14 := sy.trans (s3.trans s4)
      have h4 : H4 L = some (.lst acc) := s14 _ _ hacc
      have la := rs.length
      have lg := given_le i p f
      refine ⟨acc, h4, szlt (by omega), ?_⟩
      have hk : Kt H4 (upd H4 L (.lst (acc ++ [v]))) := Kt.upd h4
      refine ⟨same_mut (sc.trans s14) hL, acc ++ [v], upd_same, ?_⟩
      rw [given_yes hp]
      exact ((rs.mono (.of s14)).app (.cons r4 .nil)).mono hk
  · obtain ⟨sc, acc, hacc, rs⟩ := w
    exact q L acc Hc (s1.free hL) (s1.trans sc) hacc rs
theorem dl_lc {t : Bool} {elt tg iter : Expr} {ifs : List Expr} {scope : Scope} {own : List (Str × Nat)} {g : TG} {ws : List W} {p : Nat → Bool} {f : Nat → D} (ok : BlkOk X.N X.env.scope scope own)
    (hg : ∀ (s : Shared) (H : Hp) (Cc : Addr) (cl : List (Str × Addr)) (fp : List Addr), PG (X.blk s H scope (compEnvC scope cl Cc X.env) fp) tg g)
    (hi : Di t C X δ tg iter ws) (hb : Turns C X δ scope own g ifs elt ws p f) (hz : ws.length ≤ 50000) (hN : X.N.Nodup) (hc : X.calm = true := by rfl) (hs : ∀ x, foldedSetIterable iter X.env x = pure x := by intro _; rfl) :
    Dl C X δ (.ListComp elt [⟨tg, iter, ifs, 0⟩] scope pos) (given ws.length p f) := fun σ H Q E q => by
  refine ⟨_, pe_lc (own := own) hc hN pi_w ok hg pts_ttB pe_teB hs, ?_⟩
  exact lc_read hi hb hz E q
/-- the turns by things of one's own: what is walked is told by enc -/
theorem turns_of {α : Type} {scope : Scope} {own : List (Str × Nat)} {g : TG} {ifs : List Expr} {elt : Expr} {xs : List α} {enc : α → W} (p : α → Bool) (f : α → D) (dflt : D)
    (h : ∀ x ∈ xs, ∃ δ', Dg X.K C g (enc x) (wipeD δ (own.map (·.2))) δ' (own.map (·.2)) ∧
      (∀ (s : Shared) (H : Hp) (Cc : Addr) (cl : List (Str × Addr)) (fp : List Addr), Dts C (X.blk s H scope (compEnvC scope cl Cc X.env) fp) δ' ifs (p x)) ∧
      (p x = true → ∀ (s : Shared) (H : Hp) (Cc : Addr) (cl : List (Str × Addr)) (fp : List Addr), De C (X.blk s H scope (compEnvC scope cl Cc X.env) fp) δ' elt (.d (f x)))) :
    Turns C X δ scope own g ifs elt (xs.map enc) (fun i => (xs[i]?.map p).getD false) (fun i => (xs[i]?.map f).getD dflt) := fun i w hw => by
  rw [List.getElem?_map] at hw
  cases hx : xs[i]? with
  | none =>
    rw [hx] at hw
    cases hw
  | some x =>
    rw [hx] at hw
    cases hw
    obtain ⟨δ', a, b, c⟩ := h x (List.mem_of_getElem? hx)
    refine ⟨δ', a, ?_, ?_⟩
    · simp only [hx, Option.map_some, Option.getD_some]
      exact b
    · simp only [hx, Option.map_some, Option.getD_some]
      exact c
theorem given_of {α : Type} (p : α → Bool) (f : α → D) (dflt : D) : ∀ xs : List α, given xs.length (fun i => (xs[i]?.map p).getD false) (fun i => (xs[i]?.map f).getD dflt) = (xs.filter p).map f := fun xs => by
  have key : ∀ n, n ≤ xs.length → given n (fun i => (xs[i]?.map p).getD false) (fun i => (xs[i]?.map f).getD dflt) = ((xs.take n).filter p).map f := by
    intro n
    induction n with
    | zero => intro _; rfl
    | succ n ih =>
      intro hn
      have hx : xs[n]? = some (xs[n]'(by omega)) := List.getElem?_eq_getElem (by omega)
      rw [List.take_add_one, hx]
      cases hp : p (xs[n]'(by omega)) with
      | true =>
        rw [given_yes (by rw [hx]; simpa using hp), ih (by omega), hx, List.filter_append, List.map_append]
        simp only [Option.toList_some, List.filter_cons, hp, if_true, List.filter_nil, List.map_cons, List.map_nil, Option.map_some, Option.getD_some]
      | false =>
        rw [given_no (by rw [hx]; simpa using hp), ih (by omega), List.filter_append, List.map_append]
        simp only [Option.toList_some, List.filter_cons, hp, Bool.false_eq_true, if_false, List.filter_nil, List.map_nil, List.append_nil]
  rw [key xs.length (Nat.le_refl _), List.take_length]
theorem dl_lcA {α : Type} {t : Bool} {elt tg iter : Expr} {ifs : List Expr} {scope : Scope} {own : List (Str × Nat)} {g : TG} {xs : List α} {enc : α → W} (p : α → Bool) (f : α → D) (ok : BlkOk X.N X.env.scope scope own)
    (hg : ∀ (s : Shared) (H : Hp) (Cc : Addr) (cl : List (Str × Addr)) (fp : List Addr), PG (X.blk s H scope (compEnvC scope cl Cc X.env) fp) tg g)
    (hi : Di t C X δ tg iter (xs.map enc)) (hN : X.N.Nodup) (hz : xs.length ≤ 50000)
    (h : ∀ x ∈ xs, ∃ δ', Dg X.K C g (enc x) (wipeD δ (own.map (·.2))) δ' (own.map (·.2)) ∧
      (∀ (s : Shared) (H : Hp) (Cc : Addr) (cl : List (Str × Addr)) (fp : List Addr), Dts C (X.blk s H scope (compEnvC scope cl Cc X.env) fp) δ' ifs (p x)) ∧
      (p x = true → ∀ (s : Shared) (H : Hp) (Cc : Addr) (cl : List (Str × Addr)) (fp : List Addr), De C (X.blk s H scope (compEnvC scope cl Cc X.env) fp) δ' elt (.d (f x))))
    (hc : X.calm = true := by rfl) (hs : ∀ x, foldedSetIterable iter X.env x = pure x := by intro _; rfl) :
    Dl C X δ (.ListComp elt [⟨tg, iter, ifs, 0⟩] scope pos) ((xs.filter p).map f) := by
  have z := dl_lc (pos := pos) ok hg hi (turns_of p f .non h) (by rw [List.length_map]; exact hz) hN hc hs
  rw [List.length_map, given_of p f .non xs] at z
  exact z
/-- without a test -/
theorem dl_lcN {α : Type} {t : Bool} {elt tg iter : Expr} {scope : Scope} {own : List (Str × Nat)} {g : TG} {xs : List α} {enc : α → W} (f : α → D) (ok : BlkOk X.N X.env.scope scope own)
    (hg : ∀ (s : Shared) (H : Hp) (Cc : Addr) (cl : List (Str × Addr)) (fp : List Addr), PG (X.blk s H scope (compEnvC scope cl Cc X.env) fp) tg g)
    (hi : Di t C X δ tg iter (xs.map enc)) (hN : X.N.Nodup) (hz : xs.length ≤ 50000)
    (h : ∀ x ∈ xs, ∃ δ', Dg X.K C g (enc x) (wipeD δ (own.map (·.2))) δ' (own.map (·.2)) ∧
      (∀ (s : Shared) (H : Hp) (Cc : Addr) (cl : List (Str × Addr)) (fp : List Addr), De C (X.blk s H scope (compEnvC scope cl Cc X.env) fp) δ' elt (.d (f x))))
    (hc : X.calm = true := by rfl) (hs : ∀ x, foldedSetIterable iter X.env x = pure x := by intro _; rfl) :
    Dl C X δ (.ListComp elt [⟨tg, iter, [], 0⟩] scope pos) (xs.map f) := by
  have z := dl_lcA (pos := pos) (ifs := []) (fun _ => true) f ok hg hi hN hz (fun x hx => by
    obtain ⟨δ', a, b⟩ := h x hx
    exact ⟨δ', a, fun _ _ _ _ _ σ H Q E q => ⟨_, pts_nil, q H (Same.refl H)⟩, fun _ => b⟩) hc hs
  rw [List.filter_eq_self.mpr fun _ _ => rfl] at z
  exact z
theorem dts_one {k : Bool} (h : Dt C X δ e k) : Dts C X δ [e] k := fun σ H Q E q => ⟨_, pts_one pt_w, h σ H Q E q⟩
end
/-! ### a comprehension whose elements are new lists -/
section
variable {C : Addr} {X : Cx} {δ : Dn} {pos : Pos}
theorem de_lcl {α : Type} {t : Bool} {elt tg iter : Expr} {scope : Scope} {own : List (Str × Nat)} {g : TG} {xs : List α} {enc : α → W} (f : α → List D) (ok : BlkOk X.N X.env.scope scope own)
    (hg : ∀ (s : Shared) (H : Hp) (Cc : Addr) (cl : List (Str × Addr)) (fp : List Addr), PG (X.blk s H scope (compEnvC scope cl Cc X.env) fp) tg g)
    (hi : Di t C X δ tg iter (xs.map enc)) (hN : X.N.Nodup) (hz : xs.length ≤ 50000)
    (h : ∀ x ∈ xs, ∃ δ', Dg X.K C g (enc x) (wipeD δ (own.map (·.2))) δ' (own.map (·.2)) ∧
      (∀ (s : Shared) (H : Hp) (Cc : Addr) (cl : List (Str × Addr)) (fp : List Addr), Dl C (X.blk s H scope (compEnvC scope cl Cc X.env) fp) δ' elt (f x)))
    {σ : L2.St} {H : Hp} {Q : VK} (E : En X.K C H σ δ) (q : ∀ v H', Same H H' → Rw X.K C H' v (.ll (xs.map f)) → Q v H') :
    tLc (wI X tg iter) g (ttB X scope []) (teB X scope elt) (own.map (·.2)) σ H Q := by
  refine hi σ H _ E fun J H1 s1 wk => fun L hL => ?_
  obtain ⟨G, g1, gk, wk⟩ := wk
  have E1 := E.mono s1
  rw [List.length_map] at wk
  refine lc_it wk (fun i Hc => Same H1 Hc ∧ ∃ acc, Hc L = some (.lst acc) ∧ Paired (fun v ys => ∃ a vs, v = .ref a ∧ a ≠ L ∧ Hc a = some (.lst vs) ∧ Rps X.K C Hc vs ys) acc ((xs.take i).map f)) ⟨same_new hL, [], upd_same, .nil⟩ (fun i Hc _ w => gk _ _ g1 (Kr.of w.1)) (fun i x Hc H' hi w y => ?_) fun Hc w => ?_
  · obtain ⟨sc, acc, hacc, rs⟩ := w
    obtain ⟨sy, w, hw, rw_⟩ := y
    rw [List.getElem?_map] at hw
    have hx : xs[i]? = some xs[i] := List.getElem?_eq_getElem hi
    rw [hx] at hw
    cases hw
    obtain ⟨δ', dg, de⟩ := h xs[i] (List.getElem_mem hi)
    have E' : En X.K C H' (wipe σ (own.map (·.2))) (wipeD δ (own.map (·.2))) := (E1.mono (sc.trans sy)).wipe _
    refine dg x _ H' _ rw_ E' fun σ2 E2 hw2 => ⟨by rw [hw2, wipe_idem], ?_⟩
    intro s H0 Cc cl fp
    refine ⟨_, pts_nil, ?_⟩
    simp only [tYes, if_true]
    intro s' H0' Cc' cl' fp'
    refine de s' H0' Cc' cl' fp' σ2 H' _ E2 fun m vs H4 hm s4 h4m r4 => ?_
    have s14 := sy.trans s4
    have h4 : H4 L = some (.lst acc) := s14 _ _ hacc
    have hmL : m ≠ L := by
      intro z
      subst z
      rw [sy _ _ hacc] at hm
      cases hm
    have la := Paired.length rs
    rw [List.length_map, List.length_take] at la
    refine ⟨acc, h4, szlt (by omega), ?_⟩
    have hk : Kt H4 (upd H4 L (.lst (acc ++ [.ref m]))) := Kt.upd h4
    refine ⟨same_mut (sc.trans s14) hL, acc ++ [.ref m], upd_same, ?_⟩
    rw [List.take_add_one, hx, List.map_append]
    refine Paired.snoc (Paired.mapP rs fun v ys ⟨a, us, e, na, ha, ra⟩ => ⟨a, us, e, na, ?_, (ra.mono (.of s14)).mono hk⟩) ⟨m, vs, rfl, hmL, ?_, r4.mono hk⟩
    · rw [upd_ne na]
      exact s14 _ _ ha
    · rw [upd_ne hmL]
      exact h4m
  · obtain ⟨sc, acc, hacc, rs⟩ := w
    rw [List.take_length] at rs
    exact q _ Hc (s1.trans sc) ⟨L, acc, rfl, SqL.of hacc, Paired.mapP rs fun v ys ⟨a, us, e, _, ha, ra⟩ => ⟨a, us, e, SqL.of ha, ra⟩⟩
end
/-! ### statements -/
/-- the state of a body: its slots; what it had at first; the slot of its own growing list -/
def Own (K : PySem.W.Frag) (C : Addr) (H0 : Hp) (H : Hp) (σ : L2.St) (δ : Dn) (i : Nat) : Prop :=
  ∃ l vs xs, σ[i]? = some (some (.ref l)) ∧ H0 l = none ∧ H l = some (.lst vs) ∧ δ[i]? = some (some (.l xs)) ∧ Rps K C H vs xs ∧ ∀ (j : Nat) (w : W), j ≠ i → δ[j]? = some (some w) → ∃ x, w = .d x
def OwnO (K : PySem.W.Frag) (C : Addr) (H0 : Hp) (H : Hp) (σ : L2.St) (δ : Dn) : Option Nat → Prop
  | none => True
  | some i => Own K C H0 H σ δ i
structure Em (K : PySem.W.Frag) (C : Addr) (H0 : Hp) (o : Option Nat) (H : Hp) (σ : L2.St) (δ : Dn) : Prop where
  en : En K C H σ δ
  same : Same H0 H
  own : OwnO K C H0 H σ δ o
section
variable {K : PySem.W.Frag} {C : Addr} {H0 H H' : Hp} {o : Option Nat} {σ : L2.St} {δ : Dn}
theorem Em.mono (s : Same H H') (h : Em K C H0 o H σ δ) : Em K C H0 o H' σ δ := ⟨h.en.mono s, h.same.trans s, by
  have w := h.own
  cases o with
  | none => trivial
  | some i =>
    obtain ⟨l, vs, xs, a, b, c, d, r, f⟩ := w
    exact ⟨l, vs, xs, a, b, s _ _ c, d, r.mono (.of s), f⟩⟩
/-- what a slot may be given -/
def Fit (o : Option Nat) (i : Nat) (w : W) : Prop := ∀ k, o = some k → k ≠ i ∧ ∃ x, w = .d x
theorem fit_none {i : Nat} {w : W} : Fit none i w := fun _ z => nomatch z
theorem fit_some {k i : Nat} {x : D} (h : k ≠ i := by decide) : Fit (some k) i (.d x) := fun _ z => by
  cases z
  exact ⟨h, x, rfl⟩
theorem Em.set {i : Nat} {v : V} {w : W} (h : Em K C H0 o H σ δ) (r : Rw K C H v w) (f : Fit o i w) : Em K C H0 o H (σ.set i (some v)) (δ.set i (some w)) := ⟨h.en.set r, h.same, by
  have z := h.own
  cases o with
  | none => trivial
  | some k =>
    obtain ⟨ne, x, rfl⟩ := f k rfl
    obtain ⟨l, vs, xs, a, b, c, d, rr, ff⟩ := z
    refine ⟨l, vs, xs, ?_, b, c, ?_, rr, fun j u hj e => ?_⟩
    · rw [List.getElem?_set_ne ne.symm]; exact a
    · rw [List.getElem?_set_ne ne.symm]; exact d
    · by_cases hji : i = j
      · subst hji
        by_cases hl : i < δ.length
        · rw [List.getElem?_set_self hl] at e
          cases e
          exact ⟨x, rfl⟩
        · rw [List.getElem?_eq_none (by rw [List.length_set]; omega)] at e
          cases e
      · rw [List.getElem?_set_ne hji] at e
        exact ff j u hj e⟩
theorem Em.weak {δ' : Dn} (h : Em K C H0 none H σ δ) (hl : δ'.length = δ.length) (hw : ∀ (i : Nat) (w : W), δ'[i]? = some (some w) → δ[i]? = some (some w)) : Em K C H0 none H σ δ' := ⟨h.en.weak hl hw, h.same, trivial⟩
end
structure Ot where
  nx : Dn → Prop
  rt : W → Prop
def Ds (C : Addr) (X : Cx) (o : Option Nat) (δ : Dn) (sts : List Stmt) (O : Ot) : Prop :=
  ∀ (H0 : Hp) (σ : L2.St) (H : Hp) (D : Ends), Em X.K C H0 o H σ δ → (∀ δ' σ' H', O.nx δ' → Em X.K C H0 o H' σ' δ' → D.nx σ' H') → (∀ w v H', O.rt w → Same H0 H' → Rw X.K C H' v w → D.rt v H') → wSs X sts D σ H
section
variable {C : Addr} {X : Cx} {o : Option Nat} {δ : Dn} {rest : List Stmt} {O : Ot} {e : Expr} {pos p q p2 : Pos}
theorem wSs_cons {st : Stmt} {D : Ends} {σ : L2.St} {H : Hp} (h : wS X st { D with nx := wSs X rest D } σ H) : wSs X (st :: rest) D σ H := ⟨_, pss_cons ps_w pss_w, h⟩
theorem ds_nil (h : O.nx δ) : Ds C X o δ [] O := fun H0 σ H D E kn kr => ⟨_, pss_nil, kn δ σ H h E⟩
theorem ds_never {sts : List Stmt} (h : False) : Ds C X o δ sts O := h.elim
theorem Ds.imp {sts : List Stmt} {O' : Ot} (h : Ds C X o δ sts O) (a : ∀ d, O.nx d → O'.nx d) (b : ∀ w, O.rt w → O'.rt w) : Ds C X o δ sts O' := fun H0 σ H D E kn kr => h H0 σ H D E (fun d s H' z => kn d s H' (a d z)) fun w v H' z => kr w v H' (b w z)
theorem ds_set {i : Nat} {x : Str} {w : W} (he : De C X δ e w) (k : Ds C X o (δ.set i (some w)) rest O) (hN : X.N.Nodup) (hi : X.N[i]? = some x := by rfl) (hx : Loc X.env.scope x := by first | exact Or.inl rfl | exact Or.inr rfl) (f : Fit o i w := by first | exact fit_none | exact fit_some)
    (hs : swapsWith e (some (.Name x p)) pos.line X.env = pure false := by rfl) (hf : X.fn x = true ∨ X.env.scope.names.lookup x = some .local := by first | exact .inl rfl | exact .inr rfl) : Ds C X o δ (.Assign [.Name x p] e pos :: rest) O := fun H0 σ H D E kn kr => by
  refine wSs_cons ⟨_, ps_set hN hi hx pe_w hs hf, he σ H _ E.en fun v H1 s1 r1 => ?_⟩
  exact k H0 _ H1 D ((E.mono s1).set r1 f) kn kr
/-- name = [..], the name a plain local -/
theorem ds_setLc {i : Nat} {x : Str} {t : Bool} {elt tg iter : Expr} {ifs : List Expr} {scope : Scope} {own : List (Str × Nat)} {g : TG} {ws : List W} {pp : Nat → Bool} {f : Nat → D} {py : Pos} (hy : X.N[i]? = some x) (ok : BlkOk X.N X.env.scope scope own)
    (hg : ∀ (s : Shared) (H : Hp) (Cc : Addr) (cl : List (Str × Addr)) (fp : List Addr), PG (X.blk s H scope (compEnvC scope cl Cc X.env) fp) tg g)
    (hi : Di t C X δ tg iter ws) (hb : Turns C X δ scope own g ifs elt ws pp f) (hz : ws.length ≤ 50000) (hN : X.N.Nodup) (k : Ds C X none (δ.set i (some (.l (given ws.length pp f)))) rest O)
    (hyl : X.env.scope.names.lookup x = some .local := by rfl) (hsw : swapsWith (.ListComp elt [⟨tg, iter, ifs, 0⟩] scope pos) (some (.Name x py)) p.line X.env = pure true := by exact sw_true rfl rfl rfl (by decide +kernel))
    (hc : X.calm = true := by rfl) (hs : ∀ x, foldedSetIterable iter X.env x = pure x := by intro _; rfl) : Ds C X none δ (.Assign [.Name x py] (.ListComp elt [⟨tg, iter, ifs, 0⟩] scope pos) p :: rest) O := fun H0 σ H D E kn kr => by
  refine wSs_cons ⟨_, ps_setLc (own := own) hc hN hy hyl hsw pi_w ok hg pts_ttB pe_teB hs, ?_⟩
  refine lc_read hi hb hz E.en fun l vs H' hl s hl' rs => ?_
  exact k H0 _ H' D ((E.mono s).set (w := .l _) ⟨l, vs, rfl, SqL.of hl', rs⟩ fit_none) kn kr
theorem ds_ret {w : W} (he : De C X δ e w) (h : O.rt w) : Ds C X o δ (.Return (some e) pos :: rest) O := fun H0 σ H D E kn kr => by
  refine wSs_cons ⟨_, ps_ret pe_w, he σ H _ E.en fun v H1 s1 r1 => ?_⟩
  exact kr w v H1 h (E.same.trans s1) r1
theorem ds_if {c : Expr} {k : Bool} {th el : List Stmt} (hc : Dt C X δ c k) (h1 : k = true → Ds C X o δ th ⟨fun d => Ds C X o d rest O, O.rt⟩) (h2 : k = false → Ds C X o δ el ⟨fun d => Ds C X o d rest O, O.rt⟩) : Ds C X o δ (.If c th el pos :: rest) O := fun H0 σ H D E kn kr => by
  refine wSs_cons ⟨_, ps_if pt_w pss_w pss_w, hc σ H _ E.en fun H1 s1 => ?_⟩
  cases k with
  | true =>
    refine iteT (h1 rfl H0 σ H1 { D with nx := wSs X rest D } (E.mono s1) (fun d σ' H' z E' => ?_) fun w v H' z s r => kr w v H' z s r)
    exact z H0 σ' H' D E' kn kr
  | false =>
    refine iteF (h2 rfl H0 σ H1 { D with nx := wSs X rest D } (E.mono s1) (fun d σ' H' z E' => ?_) fun w v H' z s r => kr w v H' z s r)
    exact z H0 σ' H' D E' kn kr
/-- the test is known -/
theorem ds_ifT {c : Expr} {th el : List Stmt} (hc : Dt C X δ c true) (h1 : Ds C X o δ th ⟨fun d => Ds C X o d rest O, O.rt⟩) : Ds C X o δ (.If c th el pos :: rest) O := ds_if hc (fun _ => h1) fun z => nomatch z
theorem ds_ifF {c : Expr} {th el : List Stmt} (hc : Dt C X δ c false) (h1 : Ds C X o δ el ⟨fun d => Ds C X o d rest O, O.rt⟩) : Ds C X o δ (.If c th el pos :: rest) O := ds_if hc (fun z => nomatch z) fun _ => h1
/-- if c: return .. (no else), not taken -/
theorem ds_skip {c : Expr} {th : List Stmt} (hc : Dt C X δ c false) (h1 : Ds C X o δ rest O) : Ds C X o δ (.If c th [] pos :: rest) O := ds_ifF hc (ds_nil h1)
/-- a, b = e; a, b, c = e -/
theorem ds_un2 {i j : Nat} {x y : Str} {d1 d2 : D} {kk : Nat} {px py pt : Pos} (he : De C X δ e (.d (.tup [d1, d2]))) (k : Ds C X o ((δ.set i (some (.d d1))).set j (some (.d d2))) rest O) (hN : X.N.Nodup)
    (hi : X.N[i]? = some x := by rfl) (hj : X.N[j]? = some y := by rfl) (hx : Loc X.env.scope x := by first | exact Or.inl rfl | exact Or.inr rfl) (hy : Loc X.env.scope y := by first | exact Or.inl rfl | exact Or.inr rfl)
    (f1 : Fit o i (.d d1) := by first | exact fit_none | exact fit_some) (f2 : Fit o j (.d d2) := by first | exact fit_none | exact fit_some)
    (hfx : X.fn x = true ∨ X.env.scope.names.lookup x = some .local := by first | exact .inl rfl | exact .inr rfl) (hfy : X.fn y = true ∨ X.env.scope.names.lookup y = some .local := by first | exact .inl rfl | exact .inr rfl) (hc : X.calm = true := by rfl)
    (ha : (assignEach [.Name x px, .Name y py] X.env).length = 2 := by rfl) (hst : (assignEach [.Name x px, .Name y py] X.env).findIdx? (·.1) = none := by rfl)
    (hpg : PGs X [.Name x px, .Name y py] (gCons (gName i) (gCons (gName j) gNil)) := by exact pgs_cons (pg_name ‹_› rfl (by first | exact Or.inl rfl | exact Or.inr rfl)) (pgs_cons (pg_name ‹_› rfl (by first | exact Or.inl rfl | exact Or.inr rfl)) pgs_nil))
    (hs : swapsWithSole [.Tuple [.Name x px, .Name y py] kk pt] e pos.line X.env = pure false := by rfl) (hw : swappedStores [.Tuple [.Name x px, .Name y py] kk pt] e X.env = pure none := by rfl)
    (h1 : (assignEach [.Tuple [.Name x px, .Name y py] kk pt] X.env).map (·.2) = [assign (.Tuple [.Name x px, .Name y py] kk pt) X.env] := by rfl) :
    Ds C X o δ (.Assign [.Tuple [.Name x px, .Name y py] kk pt] e pos :: rest) O := fun H0 σ H D E kn kr => by
  refine wSs_cons ⟨_, ps_asg pe_w (pg_tup hc hpg ha hst) hs hw h1, he σ H _ E.en fun v H1 s1 r1 => ?_⟩
  cases r1 with
  | @tup a us _ hq rs =>
    cases rs with
    | cons r1 t =>
      cases t with
      | cons r2 t =>
        cases t
        refine ⟨a, _, rfl, hq, rfl, _, _, rfl, _, _, rfl, rfl, ?_⟩
        exact k H0 _ H1 D (((E.mono s1).set (w := .d d1) r1 f1).set (w := .d d2) r2 f2) kn kr
end
end OP

set_option Elab.async false
set_option linter.all false
set_option maxRecDepth 100000
set_option maxHeartbeats 4000000
/-! OpG: loops, lists of one's own, defs by data -/
namespace OP
open PySem PySem.Spec PyProof.Rows L2
/-! ### xs.extend(a tuple) -/
theorem ext_tup (l : Addr) (items : Array Value) (n : Nat) (b : Addr) (items2 : Array Value) (n2 : Nat) (dd : Option Addr) (sl : Array (Option Value)) (hs0 : ¬(!items.isEmpty && Builtin.List.listTooLong (items.size + items2.size)) = true) (hs1 : items.size ≤ sizeLine) (hs2 : items.size + items2.size ≤ sizeLine + 1) :
    Meets (Builtin.«list.extend» ⟨[.ref l, .ref b], []⟩) (fun _ R s => s.heap.get? l = some { cls := .type "list", dict := none, data := .seq items n, slots := #[] } ∧ s.heap.get? b = some { cls := .type "tuple", dict := dd, data := .seq items2 n2, slots := sl } ∧
      R (.ok (.ret Value.none)) { s with heap := s.heap.update l (Obj.mapSeq fun x => x ++ items2), toks := s.toks }) :=
  .of_wp fun prog w A R s h => by
    obtain ⟨hp, g, d, tk, os⟩ := s
    obtain ⟨hl, hb, h⟩ := h
    have f2 := AutoSeq1.sub_tuple_tuple
    have f3 := AutoSeq1.sub_list_list
    have f4 := AutoSeq1.sub_tuple_list
    have f5 := AutoSeq1.sub_list_tuple
    have hz : (items ++ items2).size ≤ sizeLine + 1 := by
      rw [Array.size_append]
      exact hs2
    wp_walk using (wpAny_updateSeq hl rfl (hz := hs1) (_hz' := hz)), AutoSeq1.wpAny_loadPart' hl, AutoSeq1.wpAny_loadPart' hb
    exact ⟨_, rfl, h⟩
def rExtT (K : PySem.W.Frag) : V → List V → Hp → VK → Prop := fun x vs H Q => ∃ l b xs zs, x = .ref l ∧ vs = [.ref b] ∧ H l = some (.lst xs) ∧ SqT K H b zs ∧ xs.length + zs.length ≤ sizeLine ∧ Q .non (upd H l (.lst (xs ++ zs)))
theorem mt_extT {X : Cx} : MtM X "list.extend" (rExtT X.K) := by
  intro pins s σ H x vs v us Q I rx rv h
  obtain ⟨l, b, xs, zs, rfl, rfl, hH, hB, hz, q⟩ := h
  cases rx
  obtain ⟨u, rfl, ru⟩ := rv.one
  cases ru
  obtain ⟨z, its, n, r, hl, e⟩ := I.lstM hH
  obtain ⟨its2, r2, ⟨⟨oc, dd, dt, sl⟩, e2, hc, n2, hd⟩, z2⟩ := I.tuple hB
  have hc' : oc = .type "tuple" := hc
  have hd' : dt = .seq its2.toArray n2 := hd
  subst hc' hd'
  have l1 := r.length
  have l2 := r2.length
  have hsz : its.toArray.size + its2.toArray.size ≤ sizeLine := by
    rw [List.size_toArray, List.size_toArray]
    omega
  have hlong : ¬ (!its.toArray.isEmpty && Builtin.List.listTooLong (its.toArray.size + its2.toArray.size)) = true := by
    rw [notLongL hsz, Bool.and_false]
    exact Bool.false_ne_true
  refine call_meets F.slot_list_extend ⟨_, e, rfl⟩ F.entry_list_extend (F.args_list_extend_2 _ _) (ext_tup l its.toArray n b its2.toArray n2 dd sl hlong (by rw [List.size_toArray]; omega) (by omega)) ⟨e, e2, ?_⟩
  refine ⟨.non, _, I.lset (its' := its ++ its2) hH e (by simp) (r.append r2) ?_, rfl, q⟩
  rw [List.length_append]
  omega
section
variable {C : Addr} {X : Cx} {o : Option Nat} {δ : Dn} {rest : List Stmt} {O : Ot} {e : Expr} {pos p q p2 : Pos}
/-! ### a list of the def's own -/
/-- from here on the list in slot i grows -/
theorem ds_own {i : Nat} {x : Str} {xs : List D} (he : Dl C X δ e xs) (k : Ds C X (some i) (δ.set i (some (.l xs))) rest O) (hd : ∀ (j : Nat) (w : W), j ≠ i → δ[j]? = some (some w) → ∃ x, w = .d x) (hN : X.N.Nodup) (hlt : i < δ.length) (hi : X.N[i]? = some x := by rfl) (hx : Loc X.env.scope x := by first | exact Or.inl rfl | exact Or.inr rfl)
    (hs : swapsWith e (some (.Name x p)) pos.line X.env = pure false := by rfl) (hf : X.fn x = true ∨ X.env.scope.names.lookup x = some .local := by first | exact .inl rfl | exact .inr rfl) : Ds C X none δ (.Assign [.Name x p] e pos :: rest) O := fun H0 σ H D E kn kr => by
  refine wSs_cons ⟨_, ps_set hN hi hx pe_w hs hf, he σ H _ E.en fun l vs H1 hl s1 hl1 r1 => ?_⟩
  have E1 := (E.mono s1).set (i := i) (v := .ref l) (w := .l xs) ⟨l, vs, rfl, SqL.of hl1, r1⟩ fit_none
  refine k H0 _ H1 D ⟨E1.en, E1.same, l, vs, xs, ?_, E.same.free hl, hl1, ?_, r1, fun j w hj ew => ?_⟩ (fun δ' σ' H' z E' => kn δ' σ' H' z ⟨E'.en, E'.same, trivial⟩) kr
  · exact List.getElem?_set_self (by rw [E.en.1]; exact hlt)
  · exact List.getElem?_set_self hlt
  · rw [List.getElem?_set_ne (Ne.symm hj)] at ew
    exact hd j w hj ew
theorem Own.grow {K : PySem.W.Frag} {H0 H : Hp} {σ : L2.St} {i : Nat} {l : Addr} {vs : List V} {xs : List D} {us : List V} {ys : List D} (E : Em K C H0 (some i) H σ δ) (hσ : σ[i]? = some (some (.ref l))) (h0 : H0 l = none) (hl : H l = some (.lst vs)) (hδ : δ[i]? = some (some (.l xs))) (r : Rps K C H vs xs)
    (f : ∀ (j : Nat) (w : W), j ≠ i → δ[j]? = some (some w) → ∃ x, w = .d x) (ru : Rps K C H us ys) : Em K C H0 (some i) (upd H l (.lst (vs ++ us))) σ (δ.set i (some (.l (xs ++ ys)))) := by
  have k : Kt H (upd H l (.lst (vs ++ us))) := Kt.upd hl
  have rr := (r.app ru).mono k
  have hlt : i < δ.length := (List.getElem?_eq_some_iff.mp hδ).1
  refine ⟨⟨by rw [List.length_set]; exact E.en.1, fun j w e => ?_⟩, same_mut E.same h0, l, _, _, hσ, h0, upd_same, List.getElem?_set_self hlt, rr, fun j w hj e => ?_⟩
  · by_cases hj : j = i
    · subst hj
      rw [List.getElem?_set_self hlt] at e
      cases e
      exact ⟨_, hσ, l, _, rfl, SqL.of upd_same, rr⟩
    · rw [List.getElem?_set_ne (Ne.symm hj)] at e
      obtain ⟨x, rfl⟩ := f j w hj e
      obtain ⟨v, a, b⟩ := E.en.2 j _ e
      exact ⟨v, a, Rp.mono k b⟩
  · rw [List.getElem?_set_ne (Ne.symm hj)] at e
    exact f j w hj e
/-- xs.append(e), xs in slot i -/
theorem ds_app {i : Nat} {x : Str} {xs : List D} {d : D} {apos cpos : Pos} (hδ : δ[i]? = some (some (.l xs))) (he : De C X δ e (.d d)) (hz : xs.length < 100000) (k : Ds C X (some i) (δ.set i (some (.l (xs ++ [d])))) rest O) (hi : X.N[i]? = some x := by rfl) (hv : Vis X.env.scope x := by first | exact Or.inl rfl | exact Or.inr (Or.inl rfl) | exact Or.inr (Or.inr rfl))
    (hd : (x == ("__debug__" : Str)) = false := by decide) (hcd : (x == ("__classdict__" : Str)) = false := by decide)
    (hp : PE X (.Call (.Attribute (.Name x p) "append" apos) [e] [] cpos) (tBM X.K "list" rAppend (tVar i) (tCons (wE X e) tNil)) := by exact pe_bm PySem.F.plainAttrs_list PySem.F.slot_list_append PySem.F.type_list_append mt_append (pe_var rfl (by first | exact Or.inl rfl | exact Or.inr (Or.inl rfl) | exact Or.inr (Or.inr rfl)) (by decide) (by decide)) (pa_cons pe_w pa_nil))
    (hs : swapsWith (.Call (.Attribute (.Name x p) "append" apos) [e] [] cpos) none pos.line X.env = pure false := by rfl) :
    Ds C X (some i) δ (.Expr (.Call (.Attribute (.Name x p) "append" apos) [e] [] cpos) pos :: rest) O := fun H0 σ H D E kn kr => by
  refine wSs_cons ⟨_, ps_expr hp hs, ?_⟩
  obtain ⟨l, vs, xs', hσ, h0, hl, hδ', r, f⟩ := id E.own
  rw [hδ] at hδ'
  cases hδ'
  refine ⟨.ref l, hσ, .inl ⟨rfl, vs, SqL.of hl⟩, ?_⟩
  refine he σ H _ E.en fun v H1 s1 r1 => ?_
  have hl1 := s1 _ _ hl
  refine ⟨l, vs, v, rfl, rfl, hl1, szlt (by rw [r.length]; exact hz), ?_⟩
  exact k H0 σ _ D (Own.grow (E.mono s1) hσ h0 hl1 hδ (r.mono (.of s1)) f (.cons r1 .nil)) kn kr
/-- xs.extend(e), e a tuple | a list -/
theorem ds_ext {i : Nat} {x : Str} {xs ys : List D} {apos cpos : Pos} (hδ : δ[i]? = some (some (.l xs))) (he : De C X δ e (.d (.tup ys))) (hz : xs.length + ys.length < 100000) (k : Ds C X (some i) (δ.set i (some (.l (xs ++ ys)))) rest O) (hi : X.N[i]? = some x := by rfl) (hv : Vis X.env.scope x := by first | exact Or.inl rfl | exact Or.inr (Or.inl rfl) | exact Or.inr (Or.inr rfl))
    (hd : (x == ("__debug__" : Str)) = false := by decide) (hcd : (x == ("__classdict__" : Str)) = false := by decide)
    (hp : PE X (.Call (.Attribute (.Name x p) "extend" apos) [e] [] cpos) (tBM X.K "list" (rExtT X.K) (tVar i) (tCons (wE X e) tNil)) := by exact pe_bm PySem.F.plainAttrs_list PySem.F.slot_list_extend PySem.F.type_list_extend mt_extT (pe_var rfl (by first | exact Or.inl rfl | exact Or.inr (Or.inl rfl) | exact Or.inr (Or.inr rfl)) (by decide) (by decide)) (pa_cons pe_w pa_nil))
    (hs : swapsWith (.Call (.Attribute (.Name x p) "extend" apos) [e] [] cpos) none pos.line X.env = pure false := by rfl) :
    Ds C X (some i) δ (.Expr (.Call (.Attribute (.Name x p) "extend" apos) [e] [] cpos) pos :: rest) O := fun H0 σ H D E kn kr => by
  refine wSs_cons ⟨_, ps_expr hp hs, ?_⟩
  obtain ⟨l, vs, xs', hσ, h0, hl, hδ', r, f⟩ := id E.own
  rw [hδ] at hδ'
  cases hδ'
  refine ⟨.ref l, hσ, .inl ⟨rfl, vs, SqL.of hl⟩, ?_⟩
  refine he σ H _ E.en fun v H1 s1 r1 => ?_
  have hl1 := s1 _ _ hl
  cases r1 with
  | @tup a us _ hs rs =>
    refine ⟨l, a, vs, us, rfl, rfl, hl1, hs, szl (by rw [r.length, rs.length]; omega), ?_⟩
    exact k H0 σ _ D (Own.grow (E.mono s1) hσ h0 hl1 hδ (r.mono (.of s1)) f rs) kn kr
theorem ds_extL {i : Nat} {x : Str} {xs ys : List D} {apos cpos : Pos} (hδ : δ[i]? = some (some (.l xs))) (he : Dl C X δ e ys) (hz : xs.length + ys.length < 100000) (k : Ds C X (some i) (δ.set i (some (.l (xs ++ ys)))) rest O) (hi : X.N[i]? = some x := by rfl) (hv : Vis X.env.scope x := by first | exact Or.inl rfl | exact Or.inr (Or.inl rfl) | exact Or.inr (Or.inr rfl))
    (hd : (x == ("__debug__" : Str)) = false := by decide) (hcd : (x == ("__classdict__" : Str)) = false := by decide)
    (hp : PE X (.Call (.Attribute (.Name x p) "extend" apos) [e] [] cpos) (tBM X.K "list" rExtend (tVar i) (tCons (wE X e) tNil)) := by exact pe_bm PySem.F.plainAttrs_list PySem.F.slot_list_extend PySem.F.type_list_extend mt_extend (pe_var rfl (by first | exact Or.inl rfl | exact Or.inr (Or.inl rfl) | exact Or.inr (Or.inr rfl)) (by decide) (by decide)) (pa_cons pe_w pa_nil))
    (hs : swapsWith (.Call (.Attribute (.Name x p) "extend" apos) [e] [] cpos) none pos.line X.env = pure false := by rfl) :
    Ds C X (some i) δ (.Expr (.Call (.Attribute (.Name x p) "extend" apos) [e] [] cpos) pos :: rest) O := fun H0 σ H D E kn kr => by
  refine wSs_cons ⟨_, ps_expr hp hs, ?_⟩
  obtain ⟨l, vs, xs', hσ, h0, hl, hδ', r, f⟩ := id E.own
  rw [hδ] at hδ'
  cases hδ'
  refine ⟨.ref l, hσ, .inl ⟨rfl, vs, SqL.of hl⟩, ?_⟩
  refine he σ H _ E.en fun m us H1 hm s1 hm1 r1 => ?_
  have hl1 := s1 _ _ hl
  refine ⟨l, m, vs, us, rfl, rfl, hl1, hm1, szl (by rw [r.length, r1.length]; omega), ?_⟩
  exact k H0 σ _ D (Own.grow (E.mono s1) hσ h0 hl1 hδ (r.mono (.of s1)) f r1) kn kr
/-! ### loops -/
def DgM (K : PySem.W.Frag) (C : Addr) (o : Option Nat) (g : TG) (w : W) (δ δ' : Dn) : Prop :=
  ∀ (v : V) (H0 : Hp) (σ : L2.St) (H : Hp) (Q : L2.St → Hp → Prop), Rw K C H v w → Em K C H0 o H σ δ → (∀ σ', Em K C H0 o H σ' δ' → Q σ' H) → g v σ H Q
theorem dgm_name {K : PySem.W.Frag} {i : Nat} {w : W} (f : Fit o i w := by first | exact fit_none | exact fit_some) : DgM K C o (gName i) w δ (δ.set i (some w)) := fun v H0 σ H Q r E q => q _ (E.set r f)
theorem dgm_tup2 {K : PySem.W.Frag} {i j : Nat} {x y : D} (fi : Fit o i (.d x) := by first | exact fit_none | exact fit_some) (fj : Fit o j (.d y) := by first | exact fit_none | exact fit_some) : DgM K C o (gTup K 2 (gCons (gName i) (gCons (gName j) gNil))) (.d (.tup [x, y])) δ ((δ.set i (some (.d x))).set j (some (.d y))) := fun v H0 σ H Q r E q => by
  cases r with
  | @tup a us _ hs rs =>
    cases rs with
    | cons r1 t =>
      cases t with
      | cons r2 t =>
        cases t
        exact ⟨a, _, rfl, hs, rfl, _, _, rfl, _, _, rfl, rfl, q _ ((E.set (w := .d x) r1 fi).set (w := .d y) r2 fj)⟩
/-- the heap ahead of a turn, without the growing list -/
theorem Em.rebase {K : PySem.W.Frag} {H0 H : Hp} {σ : L2.St} (E : Em K C H0 o H σ δ) : ∃ H1 : Hp, Em K C H1 o H σ δ ∧ (∀ (σ' : L2.St) (δ' : Dn) (H' : Hp), Em K C H1 o H' σ' δ' → Em K C H0 o H' σ' δ' ∧ Kr o.isSome H H') ∧ ∀ H', Same H1 H' → Same H0 H' := by
  cases o with
  | none => exact ⟨H, ⟨E.en, Same.refl H, trivial⟩, fun σ' δ' H' E' => ⟨⟨E'.en, E.same.trans E'.same, trivial⟩, E'.same⟩, fun H' s => E.same.trans s⟩
  | some i =>
    obtain ⟨l, vs, xs, hσ, h0, hl, hδ, r, f⟩ := id E.own
    have key : ∀ H', Same (fun a => if a = l then none else H a) H' → Same H0 H' := fun H' s a u e => by
      have ne : a ≠ l := fun z => by
        subst z
        rw [h0] at e
        cases e
      exact s a u (by show (if a = l then none else H a) = some u; rw [if_neg ne]; exact E.same a u e)
    refine ⟨fun a => if a = l then none else H a, ⟨E.en, fun a u (e : (if a = l then none else H a) = some u) => ?_, l, vs, xs, hσ, if_pos rfl, hl, hδ, r, f⟩, fun σ' δ' H' E' => ?_, key⟩
    · by_cases h : a = l
      · rw [if_pos h] at e
        cases e
      · rw [if_neg h] at e
        exact e
    · obtain ⟨l', vs', xs', hσ', h0', hl', hδ', r', f'⟩ := id E'.own
      refine ⟨⟨E'.en, key H' E'.same, l', vs', xs', hσ', ?_, hl', hδ', r', f'⟩, fun a u nl e => ?_⟩
      · have h0' : (if l' = l then none else H l') = none := h0'
        by_cases h : l' = l
        · rw [h]
          exact h0
        · rw [if_neg h] at h0'
          exact E.same.free h0'
      · have ne : a ≠ l := fun z => by
          subst z
          rw [hl] at e
          cases e
          exact nl
        exact E'.same a u (by show (if a = l then none else H a) = some u; rw [if_neg ne]; exact e)
theorem ds_for {t : Bool} {tg iter : Expr} {body : List Stmt} {g : TG} {ws : List W} (hi : Di t C X δ tg iter ws) (hg : PG X tg g) (I : Nat → Dn → Prop) (h0 : I 0 δ)
    (step : ∀ (i : Nat) (w : W) (δ' : Dn), ws[i]? = some w → I i δ' → ∃ δ'', DgM X.K C o g w δ' δ'' ∧ Ds C X o δ'' body ⟨I (i + 1), O.rt⟩) (done : ∀ δ', I ws.length δ' → Ds C X o δ' rest O) (ht : o.isSome = true → t = true := by first | (intro z; cases z; done) | (intro _; rfl))
    (hp : PassesOwn (model X.prog X.w) X.A X.env X.xe := by exact PassesOwn.never) (hc : X.calm = true := by rfl) (hs : ∀ x, foldedSetIterable iter X.env x = pure x := by intro _; rfl) :
    Ds C X o δ (.For tg iter body [] pos :: rest) O := fun H0 σ H D E kn kr => by
  refine wSs_cons ⟨_, ps_for hp hc pi_w hg pss_w hs, hi σ H _ E.en fun J H1 s1 wk => ?_⟩
  obtain ⟨G, g1, gk, wk⟩ := wk
  have up : ∀ {Ha Hb : Hp}, Kr o.isSome Ha Hb → Kr t Ha Hb := fun {Ha Hb} k => by
    cases t with
    | true =>
      cases ho : o.isSome with
      | true =>
        rw [ho] at k
        exact k
      | false =>
        rw [ho] at k
        exact Kt.of k
    | false =>
      cases ho : o.isSome with
      | true => exact absurd (ht ho) Bool.false_ne_true
      | false =>
        rw [ho] at k
        exact k
  refine for_it wk (fun i σ H => ∃ δ', I i δ' ∧ Em X.K C H0 o H σ δ' ∧ Kr t H1 H) ⟨δ, h0, E.mono s1, Kr.of (Same.refl H1)⟩ (fun i σ H _ ⟨δ', _, _, k⟩ => gk _ _ g1 k) (fun i x σ Hc H' hi w y => ?_) fun σ Hc ⟨δ', iw, E', _⟩ => done δ' iw H0 σ Hc D E' kn kr
  obtain ⟨δ', iw, Ec, kc⟩ := w
  obtain ⟨sy, w, hw, rw_⟩ := y
  obtain ⟨δ'', dg, db⟩ := step i w δ' hw iw
  refine dg x H0 σ H' _ rw_ (Ec.mono sy) fun σ2 E2 => ?_
  obtain ⟨H2, Er, back, ba⟩ := E2.rebase
  refine db H2 σ2 H' _ Er (fun d σ3 H3 z E3 => ?_) fun w v H3 z s r => kr w v H3 z (ba _ s) r
  obtain ⟨E4, k4⟩ := back _ _ _ E3
  exact ⟨d, z, E4, kc.trans ((Kr.of sy).trans (up k4))⟩
theorem ds_while {c : Expr} {body : List Stmt} (I : Nat → Dn → Prop) (m0 : Nat) (h0 : I m0 δ)
    (step : ∀ (m : Nat) (δ' : Dn), I m δ' → ∃ k, Dt C X δ' c k ∧ (k = true → Ds C X o δ' body ⟨fun d => ∃ m', m' < m ∧ I m' d, O.rt⟩) ∧ (k = false → Ds C X o δ' rest O))
    (hp : PassesOwn (model X.prog X.w) X.A X.env X.xe := by exact PassesOwn.never) : Ds C X o δ (.While c body [] pos :: rest) O := fun H0 σ H D E kn kr => by
  refine wSs_cons ⟨_, ps_while hp pt_w pss_w, fun m σ H => ∃ δ', I m δ' ∧ Em X.K C H0 o H σ δ', ⟨m0, δ, h0, E⟩, fun m σ H w => ?_⟩
  obtain ⟨δ', iw, E'⟩ := w
  obtain ⟨k, hk, h1, h2⟩ := step m δ' iw
  refine hk σ H _ E'.en fun H1 s1 => ?_
  cases k with
  | true =>
    refine iteT ⟨fun σ' H' => ∃ m', m' < m ∧ ∃ d, I m' d ∧ Em X.K C H0 o H' σ' d, fun σ' H' z => z, ?_⟩
    exact h1 rfl H0 σ H1 _ (E'.mono s1) (fun d σ' H' ⟨m', hm, z⟩ E2 => ⟨m', hm, d, z, E2⟩) kr
  | false => exact iteF (h2 rfl H0 σ H1 D (E'.mono s1) kn kr)
/-- a, b, c = e -/
theorem ds_un3 {i j l : Nat} {x y z : Str} {d1 d2 d3 : D} {kk : Nat} {px py pz pt : Pos} (he : De C X δ e (.d (.tup [d1, d2, d3]))) (k : Ds C X o (((δ.set i (some (.d d1))).set j (some (.d d2))).set l (some (.d d3))) rest O) (hN : X.N.Nodup)
    (hi : X.N[i]? = some x := by rfl) (hj : X.N[j]? = some y := by rfl) (hl : X.N[l]? = some z := by rfl) (hx : Loc X.env.scope x := by first | exact Or.inl rfl | exact Or.inr rfl) (hy : Loc X.env.scope y := by first | exact Or.inl rfl | exact Or.inr rfl) (hz : Loc X.env.scope z := by first | exact Or.inl rfl | exact Or.inr rfl)
    (f1 : Fit o i (.d d1) := by first | exact fit_none | exact fit_some) (f2 : Fit o j (.d d2) := by first | exact fit_none | exact fit_some) (f3 : Fit o l (.d d3) := by first | exact fit_none | exact fit_some) (hc : X.calm = true := by rfl)
    (ha : (assignEach [.Name x px, .Name y py, .Name z pz] X.env).length = 3 := by rfl) (hst : (assignEach [.Name x px, .Name y py, .Name z pz] X.env).findIdx? (·.1) = none := by rfl)
    (hpg : PGs X [.Name x px, .Name y py, .Name z pz] (gCons (gName i) (gCons (gName j) (gCons (gName l) gNil))) := by exact pgs_cons (pg_name ‹_› rfl (by first | exact Or.inl rfl | exact Or.inr rfl)) (pgs_cons (pg_name ‹_› rfl (by first | exact Or.inl rfl | exact Or.inr rfl)) (pgs_cons (pg_name ‹_› rfl (by first | exact Or.inl rfl | exact Or.inr rfl)) pgs_nil)))
    (hs : swapsWithSole [.Tuple [.Name x px, .Name y py, .Name z pz] kk pt] e pos.line X.env = pure false := by rfl) (hw : swappedStores [.Tuple [.Name x px, .Name y py, .Name z pz] kk pt] e X.env = pure none := by rfl)
    (h1 : (assignEach [.Tuple [.Name x px, .Name y py, .Name z pz] kk pt] X.env).map (·.2) = [assign (.Tuple [.Name x px, .Name y py, .Name z pz] kk pt) X.env] := by rfl) :
    Ds C X o δ (.Assign [.Tuple [.Name x px, .Name y py, .Name z pz] kk pt] e pos :: rest) O := fun H0 σ H D E kn kr => by
  refine wSs_cons ⟨_, ps_asg pe_w (pg_tup hc hpg ha hst) hs hw h1, he σ H _ E.en fun v H1 s1 r1 => ?_⟩
  cases r1 with
  | @tup a us _ hq rs =>
    cases rs with
    | cons r1 t =>
      cases t with
      | cons r2 t =>
        cases t with
        | cons r3 t =>
          cases t
          refine ⟨a, _, rfl, hq, rfl, _, _, rfl, _, _, rfl, _, _, rfl, rfl, ?_⟩
          exact k H0 _ H1 D ((((E.mono s1).set (w := .d d1) r1 f1).set (w := .d d2) r2 f2).set (w := .d d3) r3 f3) kn kr
end
/-! ### a def -/
def startW (N : List Str) (ws : List W) : Dn := ws.map some ++ List.replicate (N.length - ws.length) none
theorem en_start {K : PySem.W.Frag} {C : Addr} {H : Hp} {N : List Str} {vs : List V} {ws : List W} (h : Paired (Rw K C H) vs ws) : En K C H (L2.start N vs) (startW N ws) := by
  have l := Paired.length h
  have key : ∀ {vs : List V} {ws : List W} (n : Nat), Paired (Rw K C H) vs ws → ∀ (i : Nat) (w : W), (ws.map some ++ List.replicate n none)[i]? = some (some w) → ∃ v, (vs.map some ++ List.replicate n none)[i]? = some (some v) ∧ Rw K C H v w := by
    intro vs ws n h
    induction h with
    | nil =>
      intro i w e
      simp only [List.map_nil, List.nil_append] at e
      rw [List.getElem?_replicate] at e
      split at e <;> cases e
    | cons r t ih =>
      intro i w e
      cases i with
      | zero =>
        cases e
        exact ⟨_, rfl, r⟩
      | succ i => exact ih i w e
  unfold L2.start startW
  rw [l]
  exact ⟨by simp [l], key _ h⟩
/-- the body's context -/
abbrev bx (P : Program) (w : World) (K : PySem.W.Frag) (mg : Str → Option Value) (base : Heap) (N : List Str) (qual : Str) (st : Stmt) (f : Addr) (cdv : Value) (A : Around) (outer : List Env) (s : Shared) (H : Hp) (E : XK) : Cx := (cxOf CX0 P w K mg base N qual (defScope st) f cdv A outer s H E).nox
section
variable {P : Program} {w : World} {K : PySem.W.Frag} {mg : Str → Option Value} {base : Heap}
/-- a def of the top stands in its place -/
def At (K : PySem.W.Frag) (mg : Str → Option Value) (x : Str) (st : Stmt) : Prop := ∃ f fd, mg x = some (.ref f) ∧ Fun K x x st f fd
theorem okD {C : Addr} {x : Str} {st : Stmt} {N ps : List Str} {k : Nat} {R : List W → W → Prop} (F : At K mg x st) (S : FnScope N ps (defScope st))
    (hb : ∀ fd f, Fun K x x st f fd → Binds K fd ps []) (hl : ∀ ws w, R ws w → ws.length = ps.length)
    (body : ∀ (f : Addr) (cdv : Value) (A : Around) (outer : List Env) (s : Shared) (H : Hp) (E : XK), Room k (bx P w K mg base N x st f cdv A outer s H E).A → ∀ ws v, R ws v →
      Ds C (bx P w K mg base N x st f cdv A outer s H E) none (startW N ws) (defBody st) ⟨fun _ => v = .d .non, fun v' => v' = v⟩) : Okf P w K mg base (k + 1) x (spD C K R) := by
  obtain ⟨f, fd, hm, F⟩ := F
  refine ⟨f, fd, ps, hm, F.kp, F.ok S (fun vs H Q E h => ?_) (fun cdv A outer s H vs Q E hr h => ?_), hb fd f F⟩
  · obtain ⟨ws, v, hp, hR, _⟩ := h
    rw [Paired.length hp]
    exact hl ws v hR
  · obtain ⟨ws, v, hp, hR, q⟩ := h
    refine ⟨wSs (bx P w K mg base N x st f cdv A outer s H E) (defBody st), pss_w, ?_⟩
    refine body f cdv A outer s H E hr ws v hR H _ H _ ⟨en_start hp, Same.refl H, trivial⟩ (fun δ' σ' H' z E' => ?_) fun v' u H' z s r => ?_
    · subst z
      exact q .non H' E'.same .non
    · subst z
      exact q u H' s r
end
end OP

set_option Elab.async false
set_option linter.all false
set_option maxRecDepth 100000
set_option maxHeartbeats 4000000
/-! OpM: the machine of levels in plain Lean, how its things are written as data -/
namespace OP
open PySem PySem.Spec PyProof.Rows L2
/-! ### the machine -/
/-- what is in a cell: a level and a value -/
abbrev Cell := Option (Int × Int)
/-- a hand's state: over, or its level and what it has looked at (none: a put is next) -/
abbrev Sta := Option (Int × Option (List Cell))
/-- something told: pairs of a hand and a value -/
abbrev Item := List (Int × Int)
structure St where
  cells : List Cell
  states : List Sta
  told : List (List Item)
/-- those at a level or below -/
def isBelow (l : Int) : Cell → Bool
  | none => false
  | some c => decide (c.1 ≤ l)
def valC : Cell → Int
  | none => 0
  | some c => c.2
def below (l : Int) (looked : List Cell) : Item := (looked.zipIdx.filter fun z => isBelow l z.1).map fun z => ((z.2 : Nat), valC z.1)
def after (rows : List Int) (h : Nat) (cells : List Cell) : Int × Option (List Cell) → Cell × Sta × Option Item
  | (l, none) => (some (l - 1, rows.getD h 0), some (l - 1, some []), none)
  | (l, some now) =>
    if (now ++ [cells.getD now.length none]).length < cells.length then (none, some (l, some (now ++ [cells.getD now.length none])), none)
    else if l ≤ ((below l (now ++ [cells.getD now.length none])).length : Int) then (none, none, some (below l (now ++ [cells.getD now.length none])))
    else (none, some (l, none), none)
def movedBy (s : St) (h : Nat) (isPut : Bool) (a : Cell × Sta × Option Item) : St :=
  ⟨if isPut then s.cells.set h a.1 else s.cells, s.states.set h a.2.1, match a.2.2 with
    | none => s.told
    | some it => s.told.set h (s.told.getD h [] ++ [it])⟩
def moved (rows : List Int) (s : St) (h : Nat) : St := match s.states[h]? with
  | some (some st) => movedBy s h st.2.isNone (after rows h s.cells st)
  | _ => s
def begin0 (n : Nat) : St := ⟨List.replicate n none, List.replicate n (some ((n : Int) + 1, none)), List.replicate n []⟩
/-- the hands that are not over -/
def left (s : St) : List Nat := (s.states.zipIdx.filter fun z => z.1.isSome).map (·.2)
/-! ### as data -/
def eC : Cell → D
  | none => .non
  | some c => .tup [.int c.1, .int c.2]
def eN : Option (List Cell) → D
  | none => .non
  | some now => .tup (now.map eC)
def eS : Sta → D
  | none => .non
  | some (l, o) => .tup [.int l, eN o]
def eP (p : Int × Int) : D := .tup [.int p.1, .int p.2]
def eI (ps : Item) : D := .tup (ps.map eP)
def eT (its : List Item) : D := .tup (its.map eI)
def eO : Option Item → D
  | none => .non
  | some it => eI it
def eA (a : Cell × Sta × Option Item) : D := .tup [eC a.1, eS a.2.1, eO a.2.2]
def eSt (s : St) : D := .tup [.tup (s.cells.map eC), .tup (s.states.map eS), .tup (s.told.map eT)]
def nI (h : Nat) : D := .int (h : Int)
theorem enumD_map {α : Type} (f : α → D) (xs : List α) : enumD (xs.map f) = xs.zipIdx.map fun z => .d (.tup [.int (z.2 : Nat), f z.1]) := by
  unfold enumD
  rw [List.zipIdx_map, List.map_map]
  rfl
theorem atI_map {α : Type} (f : α → D) {xs : List α} {i : Nat} {x : α} (h : xs[i]? = some x) : atI (xs.map f) ((i : Nat) : Int) = some (f x) := atI_nat (by rw [List.getElem?_map, h]; rfl)
theorem cutD_upto {xs : List D} {n : Nat} (h : n ≤ xs.length) : cutD xs none (some (n : Int)) = xs.take n := by
  unfold cutD
  rw [HT.sIx_nat, HT.sIx_none, Nat.min_eq_left h]
  simp
theorem cutD_from {xs : List D} {n : Nat} (h : n ≤ xs.length) : cutD xs (some (n : Int)) none = xs.drop n := by
  unfold cutD
  rw [HT.sIx_nat, HT.sIx_none, Nat.min_eq_left h]
  have : (xs.drop n).length = xs.length - n := List.length_drop
  rw [← this, List.take_length]
theorem set_cut {α : Type} {xs : List α} {n : Nat} (x : α) (h : n < xs.length) : xs.take n ++ [x] ++ xs.drop (n + 1) = xs.set n x := by
  rw [List.set_eq_take_append_cons_drop, if_pos h]
  simp
/-! ### the shape of a standing -/
structure Wf (rows : List Int) (s : St) : Prop where
  n5 : rows.length ≤ 5
  lc : s.cells.length = rows.length
  ls : s.states.length = rows.length
  lt : s.told.length = rows.length
  now : ∀ (h : Nat) (l : Int) (now : List Cell), s.states[h]? = some (some (l, some now)) → now.length < rows.length
  tol : ∀ (h : Nat) (x : Int × Option (List Cell)), s.states[h]? = some (some x) → s.told[h]? = some []
theorem wf_begin {rows : List Int} (h : rows.length ≤ 5) : Wf rows (begin0 rows.length) where
  n5 := h
  lc := List.length_replicate
  ls := List.length_replicate
  lt := List.length_replicate
  now := fun k l now e => by
    unfold begin0 at e
    rw [List.getElem?_replicate] at e
    split at e <;> simp at e
  tol := fun k x e => by
    unfold begin0 at e ⊢
    rw [List.getElem?_replicate] at e ⊢
    split at e
    · rename_i hk
      rw [if_pos hk]
    · cases e
theorem wf_moved {rows : List Int} {s : St} (W : Wf rows s) (h : Nat) : Wf rows (moved rows s h) := by
  unfold moved
  split
  · rename_i st hst
    have hl : h < s.states.length := (List.getElem?_eq_some_iff.mp hst).1
    have hn : h < rows.length := W.ls ▸ hl
    refine ⟨W.n5, ?_, ?_, ?_, fun k l now e => ?_, fun k x e => ?_⟩
    · show (if _ then _ else _ : List Cell).length = _
      split
      · rw [List.length_set]; exact W.lc
      · exact W.lc
    · show (s.states.set h _).length = _
      rw [List.length_set]
      exact W.ls
    · show List.length (match (after rows h s.cells st).2.2 with | none => s.told | some it => s.told.set h (s.told.getD h [] ++ [it])) = _
      split
      · exact W.lt
      · rw [List.length_set]; exact W.lt
    · have e : (s.states.set h (after rows h s.cells st).2.1)[k]? = some (some (l, some now)) := e
      by_cases hk : h = k
      · subst hk
        rw [List.getElem?_set_self hl] at e
        have e := Option.some.inj e
        obtain ⟨l0, o⟩ := st
        cases o with
        | none =>
          simp only [after] at e
          have e2 := (Prod.mk.inj (Option.some.inj e)).2
          have e3 := Option.some.inj e2
          subst e3
          show 0 < rows.length
          omega
        | some nw =>
          simp only [after] at e
          split at e
          · rename_i hlt
            have e2 := (Prod.mk.inj (Option.some.inj e)).2
            have e3 := Option.some.inj e2
            subst e3
            rw [← W.lc]
            exact hlt
          · split at e
            · cases e
            · have e2 := (Prod.mk.inj (Option.some.inj e)).2
              cases e2
      · rw [List.getElem?_set_ne hk] at e
        exact W.now k l now e
    · have e : (s.states.set h (after rows h s.cells st).2.1)[k]? = some (some x) := e
      show (match (after rows h s.cells st).2.2 with | none => s.told | some it => s.told.set h (s.told.getD h [] ++ [it]))[k]? = some []
      by_cases hk : h = k
      · subst hk
        rw [List.getElem?_set_self hl] at e
        have e := Option.some.inj e
        have t0 := W.tol h st hst
        obtain ⟨l0, o⟩ := st
        cases o with
        | none => exact t0
        | some nw =>
          simp only [after] at e ⊢
          split
          · rename_i hn2
            exact t0
          · rename_i it hn2
            split at hn2
            · cases hn2
            · split at hn2
              · rename_i h1 h2
                rw [if_neg h1, if_pos h2] at e
                cases e
              · cases hn2
      · rw [List.getElem?_set_ne hk] at e
        have t0 := W.tol k x e
        split
        · exact t0
        · rw [List.getElem?_set_ne hk]
          exact t0
  · exact W
end OP

set_option Elab.async false
set_option linter.all false
set_option maxRecDepth 100000
set_option maxHeartbeats 4000000
/-! OpT: the text by places (printed by gen_txt.py) -/
namespace OP
open PySem PySem.Spec PyProof.Rows L2
/-- what the top has left -/
structure Tx (K : PySem.W.Frag) (mg : Str → Option Value) (C : Addr) : Prop where
  a_is_integer : At K mg "is_integer" (topS 9)
  a_is_within : At K mg "is_within" (topS 10)
  a_is_below : At K mg "is_below" (topS 11)
  a_is_sized : At K mg "is_sized" (topS 12)
  a_is_pair : At K mg "is_pair" (topS 13)
  a_is_listed : At K mg "is_listed" (topS 14)
  a_replaced : At K mg "replaced" (topS 15)
  a_is_value : At K mg "is_value" (topS 34)
  a_is_row_of : At K mg "is_row_of" (topS 37)
  a_are_inputs : At K mg "are_inputs" (topS 38)
  a_is_hand : At K mg "is_hand" (topS 40)
  a_check_hand : At K mg "check_hand" (topS 41)
  a_level_cell : At K mg "level_cell" (topS 44)
  a_level_state : At K mg "level_state" (topS 45)
  a_level_next : At K mg "level_next" (topS 46)
  a_level_after : At K mg "level_after" (topS 47)
  a_cell_of : At K mg "cell_of" (topS 72)
  a_state_of : At K mg "state_of" (topS 73)
  a_next_of : At K mg "next_of" (topS 74)
  a_after_of : At K mg "after_of" (topS 75)
  a_begun : At K mg "begun" (topS 76)
  a_first_standing : At K mg "first_standing" (topS 77)
  a_movers : At K mg "movers" (topS 78)
  a_can_step : At K mg "can_step" (topS 79)
  a_after_step : At K mg "after_step" (topS 80)
  a_check_step : At K mg "check_step" (topS 81)
  a_step : At K mg "step" (topS 82)
  a_next_step : At K mg "next_step" (topS 83)
  a_standings_of : At K mg "standings_of" (topS 84)
  a_run : At K mg "run" (topS 85)
  a_run_out : At K mg "run_out" (topS 86)
  a_is_came : At K mg "is_came" (topS 89)
  a_is_number_and_value : At K mg "is_number_and_value" (topS 90)
  a_is_at_once : At K mg "is_at_once" (topS 92)
  a_is_item : At K mg "is_item" (topS 93)
  a_most_told : At K mg "most_told" (topS 94)
  a_is_told : At K mg "is_told" (topS 95)
  a_flat : At K mg "flat" (topS 96)
  a_is_within_lot : At K mg "is_within_lot" (topS 98)
  a_are_chain : At K mg "are_chain" (topS 99)
  a_hands_of : At K mg "hands_of" (topS 102)
  a_is_strange : At K mg "is_strange" (topS 103)
  a_has_more : At K mg "has_more" (topS 104)
  a_level_fault : At K mg "level_fault" (topS 105)
  a_raw_fault : At K mg "raw_fault" (topS 109)
  a_fault : At K mg "fault" (topS 110)
  a__law_hand : At K mg "_law_hand" (topS 112)
  a__law_draw : At K mg "_law_draw" (topS 113)
  a__law_some : At K mg "_law_some" (topS 114)
  a__law_is : At K mg "_law_is" (topS 116)
  a__law_inputs : At K mg "_law_inputs" (topS 117)
  a__law_begin : At K mg "_law_begin" (topS 118)
  a__law_next : At K mg "_law_next" (topS 119)
  a__law_level : At K mg "_law_level" (topS 120)
  a__law_moved : At K mg "_law_moved" (topS 124)
  a__law_left : At K mg "_law_left" (topS 125)
  a__law_woven : At K mg "_law_woven" (topS 126)
  a__law_whole : At K mg "_law_whole" (topS 127)
  a__law_came : At K mg "_law_came" (topS 128)
  a__law_has : At K mg "_law_has" (topS 129)
  a__law_are_chain : At K mg "_law_are_chain" (topS 130)
  a__law_all : At K mg "_law_all" (topS 131)
  a__law_level_fault : At K mg "_law_level_fault" (topS 132)
  a__law_fault : At K mg "_law_fault" (topS 135)
  a__law_led_right : At K mg "_law_led_right" (topS 136)
  a_law : At K mg "law" (topS 137)
  f_len : mg "len" = none
  f_all : mg "all" = none
  f_any : mg "any" = none
  f_tuple : mg "tuple" = none
  f_list : mg "list" = none
  f_range : mg "range" = none
  f_enumerate : mg "enumerate" = none
  f_zip : mg "zip" = none
  f_isinstance : mg "isinstance" = none
  f_int : mg "int" = none
  f_abs : mg "abs" = none
  f_sorted : mg "sorted" = none
  f_set : mg "set" = none
  f_str : mg "str" = none
  f_bool : mg "bool" = none
  f_dict : mg "dict" = none
  s_SWEEP : ∃ t, mg "SWEEP" = some (.str "sweep" t)
  s_TWICE : ∃ t, mg "TWICE" = some (.str "twice" t)
  s_BORROW : ∃ t, mg "BORROW" = some (.str "borrow" t)
  s_LEVELS : ∃ t, mg "LEVELS" = some (.str "levels" t)
  s_NAMES : ∃ t, mg "NAMES" = some (.str "names" t)
  s_NEAR : ∃ t, mg "NEAR" = some (.str "near" t)
  s_CHAIN : ∃ t, mg "CHAIN" = some (.str "chain" t)
  s_PUT : ∃ t, mg "PUT" = some (.str "put" t)
  s_SEE : ∃ t, mg "SEE" = some (.str "see" t)
  s_LOOK_levels : ∃ t, mg "LOOK_levels" = some (.str "look" t)
  s_LOOK_manners : ∃ t, mg "LOOK_manners" = some (.str "look" t)
  i_MOST_HANDS : ∃ t, mg "MOST_HANDS" = some (.int 5 t)
  i_MOST_DEEDS : ∃ t, mg "MOST_DEEDS" = some (.int 6 t)
  i_MOST_VALUE : ∃ t, mg "MOST_VALUE" = some (.int 1000 t)
  i_MOST_ROUNDS : ∃ t, mg "MOST_ROUNDS" = some (.int 6 t)
  i_MOST_THING : ∃ t, mg "MOST_THING" = some (.int 20 t)
  i_MOST_NUMBER : ∃ t, mg "MOST_NUMBER" = some (.int 100000000000000000000 t)
  manners : ∃ a, mg "MANNERS" = some (.ref a) ∧ ∀ H : Hp, SqT K H a ((["sweep", "twice", "borrow"] : List Str).map V.str)
  g_Play : mg "Play" = some (.ref C)
  cls : Cls K C
  na_kind : NoAttr K C "kind"
  na_inputs : NoAttr K C "inputs"
  na_rows : NoAttr K C "rows"
  mkr : ∃ f fd, Mk K C f ∧ Fun K "__init__" "Play.__init__" (inClass (topS 39) 0) f fd
abbrev n_is_integer : List Str := ["thing"]
theorem sc_is_integer : FnScope n_is_integer ["thing"] (defScope (topS 9)) := ⟨rfl, rfl, rfl, by decide +kernel, rfl, by decide +kernel, by decide +kernel⟩
theorem bn_is_integer {K : PySem.W.Frag} (fd : FuncData) (f : Addr) (F : Fun K "is_integer" "is_integer" (topS 9) f fd) : Binds K fd ["thing"] [] := F.binds fun _ _ _ _ _ _ us hl => match us, hl with | [_], _ => rfl
abbrev n_is_within : List Str := ["thing", "least", "most"]
theorem sc_is_within : FnScope n_is_within ["thing", "least", "most"] (defScope (topS 10)) := ⟨rfl, rfl, rfl, by decide +kernel, rfl, by decide +kernel, by decide +kernel⟩
theorem bn_is_within {K : PySem.W.Frag} (fd : FuncData) (f : Addr) (F : Fun K "is_within" "is_within" (topS 10) f fd) : Binds K fd ["thing", "least", "most"] [] := F.binds fun _ _ _ _ _ _ us hl => match us, hl with | [_, _, _], _ => rfl
abbrev n_is_below : List Str := ["thing", "many"]
theorem sc_is_below : FnScope n_is_below ["thing", "many"] (defScope (topS 11)) := ⟨rfl, rfl, rfl, by decide +kernel, rfl, by decide +kernel, by decide +kernel⟩
theorem bn_is_below {K : PySem.W.Frag} (fd : FuncData) (f : Addr) (F : Fun K "is_below" "is_below" (topS 11) f fd) : Binds K fd ["thing", "many"] [] := F.binds fun _ _ _ _ _ _ us hl => match us, hl with | [_, _], _ => rfl
abbrev n_is_sized : List Str := ["thing", "least", "most"]
theorem sc_is_sized : FnScope n_is_sized ["thing", "least", "most"] (defScope (topS 12)) := ⟨rfl, rfl, rfl, by decide +kernel, rfl, by decide +kernel, by decide +kernel⟩
theorem bn_is_sized {K : PySem.W.Frag} (fd : FuncData) (f : Addr) (F : Fun K "is_sized" "is_sized" (topS 12) f fd) : Binds K fd ["thing", "least", "most"] [] := F.binds fun _ _ _ _ _ _ us hl => match us, hl with | [_, _, _], _ => rfl
abbrev n_is_pair : List Str := ["thing"]
theorem sc_is_pair : FnScope n_is_pair ["thing"] (defScope (topS 13)) := ⟨rfl, rfl, rfl, by decide +kernel, rfl, by decide +kernel, by decide +kernel⟩
theorem bn_is_pair {K : PySem.W.Frag} (fd : FuncData) (f : Addr) (F : Fun K "is_pair" "is_pair" (topS 13) f fd) : Binds K fd ["thing"] [] := F.binds fun _ _ _ _ _ _ us hl => match us, hl with | [_], _ => rfl
abbrev n_is_listed : List Str := ["thing"]
theorem sc_is_listed : FnScope n_is_listed ["thing"] (defScope (topS 14)) := ⟨rfl, rfl, rfl, by decide +kernel, rfl, by decide +kernel, by decide +kernel⟩
theorem bn_is_listed {K : PySem.W.Frag} (fd : FuncData) (f : Addr) (F : Fun K "is_listed" "is_listed" (topS 14) f fd) : Binds K fd ["thing"] [] := F.binds fun _ _ _ _ _ _ us hl => match us, hl with | [_], _ => rfl
abbrev n_replaced : List Str := ["items", "number", "item"]
theorem sc_replaced : FnScope n_replaced ["items", "number", "item"] (defScope (topS 15)) := ⟨rfl, rfl, rfl, by decide +kernel, rfl, by decide +kernel, by decide +kernel⟩
theorem bn_replaced {K : PySem.W.Frag} (fd : FuncData) (f : Addr) (F : Fun K "replaced" "replaced" (topS 15) f fd) : Binds K fd ["items", "number", "item"] [] := F.binds fun _ _ _ _ _ _ us hl => match us, hl with | [_, _, _], _ => rfl
abbrev n_is_value : List Str := ["thing"]
theorem sc_is_value : FnScope n_is_value ["thing"] (defScope (topS 34)) := ⟨rfl, rfl, rfl, by decide +kernel, rfl, by decide +kernel, by decide +kernel⟩
theorem bn_is_value {K : PySem.W.Frag} (fd : FuncData) (f : Addr) (F : Fun K "is_value" "is_value" (topS 34) f fd) : Binds K fd ["thing"] [] := F.binds fun _ _ _ _ _ _ us hl => match us, hl with | [_], _ => rfl
abbrev n_is_row_of : List Str := ["is_one", "thing", "item"]
theorem sc_is_row_of : FnScope n_is_row_of ["is_one", "thing"] (defScope (topS 37)) := ⟨rfl, rfl, rfl, by decide +kernel, rfl, by decide +kernel, by decide +kernel⟩
theorem bn_is_row_of {K : PySem.W.Frag} (fd : FuncData) (f : Addr) (F : Fun K "is_row_of" "is_row_of" (topS 37) f fd) : Binds K fd ["is_one", "thing"] [] := F.binds fun _ _ _ _ _ _ us hl => match us, hl with | [_, _], _ => rfl
abbrev n_are_inputs : List Str := ["kind", "thing"]
theorem sc_are_inputs : FnScope n_are_inputs ["kind", "thing"] (defScope (topS 38)) := ⟨rfl, rfl, rfl, by decide +kernel, rfl, by decide +kernel, by decide +kernel⟩
theorem bn_are_inputs {K : PySem.W.Frag} (fd : FuncData) (f : Addr) (F : Fun K "are_inputs" "are_inputs" (topS 38) f fd) : Binds K fd ["kind", "thing"] [] := F.binds fun _ _ _ _ _ _ us hl => match us, hl with | [_, _], _ => rfl
abbrev n_is_hand : List Str := ["play", "thing"]
theorem sc_is_hand : FnScope n_is_hand ["play", "thing"] (defScope (topS 40)) := ⟨rfl, rfl, rfl, by decide +kernel, rfl, by decide +kernel, by decide +kernel⟩
theorem bn_is_hand {K : PySem.W.Frag} (fd : FuncData) (f : Addr) (F : Fun K "is_hand" "is_hand" (topS 40) f fd) : Binds K fd ["play", "thing"] [] := F.binds fun _ _ _ _ _ _ us hl => match us, hl with | [_, _], _ => rfl
abbrev n_check_hand : List Str := ["play", "thing"]
theorem sc_check_hand : FnScope n_check_hand ["play", "thing"] (defScope (topS 41)) := ⟨rfl, rfl, rfl, by decide +kernel, rfl, by decide +kernel, by decide +kernel⟩
theorem bn_check_hand {K : PySem.W.Frag} (fd : FuncData) (f : Addr) (F : Fun K "check_hand" "check_hand" (topS 41) f fd) : Binds K fd ["play", "thing"] [] := F.binds fun _ _ _ _ _ _ us hl => match us, hl with | [_, _], _ => rfl
abbrev n_level_cell : List Str := ["play", "hand"]
theorem sc_level_cell : FnScope n_level_cell ["play", "hand"] (defScope (topS 44)) := ⟨rfl, rfl, rfl, by decide +kernel, rfl, by decide +kernel, by decide +kernel⟩
theorem bn_level_cell {K : PySem.W.Frag} (fd : FuncData) (f : Addr) (F : Fun K "level_cell" "level_cell" (topS 44) f fd) : Binds K fd ["play", "hand"] [] := F.binds fun _ _ _ _ _ _ us hl => match us, hl with | [_, _], _ => rfl
abbrev n_level_state : List Str := ["play", "hand"]
theorem sc_level_state : FnScope n_level_state ["play", "hand"] (defScope (topS 45)) := ⟨rfl, rfl, rfl, by decide +kernel, rfl, by decide +kernel, by decide +kernel⟩
theorem bn_level_state {K : PySem.W.Frag} (fd : FuncData) (f : Addr) (F : Fun K "level_state" "level_state" (topS 45) f fd) : Binds K fd ["play", "hand"] [] := F.binds fun _ _ _ _ _ _ us hl => match us, hl with | [_, _], _ => rfl
abbrev n_level_next : List Str := ["play", "hand", "state"]
theorem sc_level_next : FnScope n_level_next ["play", "hand", "state"] (defScope (topS 46)) := ⟨rfl, rfl, rfl, by decide +kernel, rfl, by decide +kernel, by decide +kernel⟩
theorem bn_level_next {K : PySem.W.Frag} (fd : FuncData) (f : Addr) (F : Fun K "level_next" "level_next" (topS 46) f fd) : Binds K fd ["play", "hand", "state"] [] := F.binds fun _ _ _ _ _ _ us hl => match us, hl with | [_, _, _], _ => rfl
abbrev n_level_after : List Str := ["play", "hand", "cells", "state", "looked", "below", "level", "now", "other", "cell"]
theorem sc_level_after : FnScope n_level_after ["play", "hand", "cells", "state"] (defScope (topS 47)) := ⟨rfl, rfl, rfl, by decide +kernel, rfl, by decide +kernel, by decide +kernel⟩
theorem bn_level_after {K : PySem.W.Frag} (fd : FuncData) (f : Addr) (F : Fun K "level_after" "level_after" (topS 47) f fd) : Binds K fd ["play", "hand", "cells", "state"] [] := F.binds fun _ _ _ _ _ _ us hl => match us, hl with | [_, _, _, _], _ => rfl
abbrev n_cell_of : List Str := ["play", "hand"]
theorem sc_cell_of : FnScope n_cell_of ["play", "hand"] (defScope (topS 72)) := ⟨rfl, rfl, rfl, by decide +kernel, rfl, by decide +kernel, by decide +kernel⟩
theorem bn_cell_of {K : PySem.W.Frag} (fd : FuncData) (f : Addr) (F : Fun K "cell_of" "cell_of" (topS 72) f fd) : Binds K fd ["play", "hand"] [] := F.binds fun _ _ _ _ _ _ us hl => match us, hl with | [_, _], _ => rfl
abbrev n_state_of : List Str := ["play", "hand"]
theorem sc_state_of : FnScope n_state_of ["play", "hand"] (defScope (topS 73)) := ⟨rfl, rfl, rfl, by decide +kernel, rfl, by decide +kernel, by decide +kernel⟩
theorem bn_state_of {K : PySem.W.Frag} (fd : FuncData) (f : Addr) (F : Fun K "state_of" "state_of" (topS 73) f fd) : Binds K fd ["play", "hand"] [] := F.binds fun _ _ _ _ _ _ us hl => match us, hl with | [_, _], _ => rfl
abbrev n_next_of : List Str := ["play", "hand", "state"]
theorem sc_next_of : FnScope n_next_of ["play", "hand", "state"] (defScope (topS 74)) := ⟨rfl, rfl, rfl, by decide +kernel, rfl, by decide +kernel, by decide +kernel⟩
theorem bn_next_of {K : PySem.W.Frag} (fd : FuncData) (f : Addr) (F : Fun K "next_of" "next_of" (topS 74) f fd) : Binds K fd ["play", "hand", "state"] [] := F.binds fun _ _ _ _ _ _ us hl => match us, hl with | [_, _, _], _ => rfl
abbrev n_after_of : List Str := ["play", "hand", "cells", "state"]
theorem sc_after_of : FnScope n_after_of ["play", "hand", "cells", "state"] (defScope (topS 75)) := ⟨rfl, rfl, rfl, by decide +kernel, rfl, by decide +kernel, by decide +kernel⟩
theorem bn_after_of {K : PySem.W.Frag} (fd : FuncData) (f : Addr) (F : Fun K "after_of" "after_of" (topS 75) f fd) : Binds K fd ["play", "hand", "cells", "state"] [] := F.binds fun _ _ _ _ _ _ us hl => match us, hl with | [_, _, _, _], _ => rfl
abbrev n_begun : List Str := ["play", "hands", "cells", "hand"]
theorem sc_begun : FnScope n_begun ["play"] (defScope (topS 76)) := ⟨rfl, rfl, rfl, by decide +kernel, rfl, by decide +kernel, by decide +kernel⟩
theorem bn_begun {K : PySem.W.Frag} (fd : FuncData) (f : Addr) (F : Fun K "begun" "begun" (topS 76) f fd) : Binds K fd ["play"] [] := F.binds fun _ _ _ _ _ _ us hl => match us, hl with | [_], _ => rfl
abbrev n_first_standing : List Str := ["play"]
theorem sc_first_standing : FnScope n_first_standing ["play"] (defScope (topS 77)) := ⟨rfl, rfl, rfl, by decide +kernel, rfl, by decide +kernel, by decide +kernel⟩
theorem bn_first_standing {K : PySem.W.Frag} (fd : FuncData) (f : Addr) (F : Fun K "first_standing" "first_standing" (topS 77) f fd) : Binds K fd ["play"] [] := F.binds fun _ _ _ _ _ _ us hl => match us, hl with | [_], _ => rfl
abbrev n_movers : List Str := ["standing", "hand", "state"]
theorem sc_movers : FnScope n_movers ["standing"] (defScope (topS 78)) := ⟨rfl, rfl, rfl, by decide +kernel, rfl, by decide +kernel, by decide +kernel⟩
theorem bn_movers {K : PySem.W.Frag} (fd : FuncData) (f : Addr) (F : Fun K "movers" "movers" (topS 78) f fd) : Binds K fd ["standing"] [] := F.binds fun _ _ _ _ _ _ us hl => match us, hl with | [_], _ => rfl
abbrev n_can_step : List Str := ["play", "standing"]
theorem sc_can_step : FnScope n_can_step ["play", "standing"] (defScope (topS 79)) := ⟨rfl, rfl, rfl, by decide +kernel, rfl, by decide +kernel, by decide +kernel⟩
theorem bn_can_step {K : PySem.W.Frag} (fd : FuncData) (f : Addr) (F : Fun K "can_step" "can_step" (topS 79) f fd) : Binds K fd ["play", "standing"] [] := F.binds fun _ _ _ _ _ _ us hl => match us, hl with | [_, _], _ => rfl
abbrev n_after_step : List Str := ["play", "standing", "hand", "cells", "states", "told", "cell", "state", "item"]
theorem sc_after_step : FnScope n_after_step ["play", "standing", "hand"] (defScope (topS 80)) := ⟨rfl, rfl, rfl, by decide +kernel, rfl, by decide +kernel, by decide +kernel⟩
theorem bn_after_step {K : PySem.W.Frag} (fd : FuncData) (f : Addr) (F : Fun K "after_step" "after_step" (topS 80) f fd) : Binds K fd ["play", "standing", "hand"] [] := F.binds fun _ _ _ _ _ _ us hl => match us, hl with | [_, _, _], _ => rfl
abbrev n_check_step : List Str := ["play", "standing", "hand"]
theorem sc_check_step : FnScope n_check_step ["play", "standing", "hand"] (defScope (topS 81)) := ⟨rfl, rfl, rfl, by decide +kernel, rfl, by decide +kernel, by decide +kernel⟩
theorem bn_check_step {K : PySem.W.Frag} (fd : FuncData) (f : Addr) (F : Fun K "check_step" "check_step" (topS 81) f fd) : Binds K fd ["play", "standing", "hand"] [] := F.binds fun _ _ _ _ _ _ us hl => match us, hl with | [_, _, _], _ => rfl
abbrev n_step : List Str := ["play", "standing", "hand"]
theorem sc_step : FnScope n_step ["play", "standing", "hand"] (defScope (topS 82)) := ⟨rfl, rfl, rfl, by decide +kernel, rfl, by decide +kernel, by decide +kernel⟩
theorem bn_step {K : PySem.W.Frag} (fd : FuncData) (f : Addr) (F : Fun K "step" "step" (topS 82) f fd) : Binds K fd ["play", "standing", "hand"] [] := F.binds fun _ _ _ _ _ _ us hl => match us, hl with | [_, _, _], _ => rfl
abbrev n_next_step : List Str := ["play", "standing", "hand"]
theorem sc_next_step : FnScope n_next_step ["play", "standing", "hand"] (defScope (topS 83)) := ⟨rfl, rfl, rfl, by decide +kernel, rfl, by decide +kernel, by decide +kernel⟩
theorem bn_next_step {K : PySem.W.Frag} (fd : FuncData) (f : Addr) (F : Fun K "next_step" "next_step" (topS 83) f fd) : Binds K fd ["play", "standing", "hand"] [] := F.binds fun _ _ _ _ _ _ us hl => match us, hl with | [_, _, _], _ => rfl
abbrev n_standings_of : List Str := ["play", "weaving", "found", "index", "hand"]
theorem sc_standings_of : FnScope n_standings_of ["play", "weaving"] (defScope (topS 84)) := ⟨rfl, rfl, rfl, by decide +kernel, rfl, by decide +kernel, by decide +kernel⟩
theorem bn_standings_of {K : PySem.W.Frag} (fd : FuncData) (f : Addr) (F : Fun K "standings_of" "standings_of" (topS 84) f fd) : Binds K fd ["play", "weaving"] [] := F.binds fun _ _ _ _ _ _ us hl => match us, hl with | [_, _], _ => rfl
abbrev n_run : List Str := ["play", "weaving"]
theorem sc_run : FnScope n_run ["play", "weaving"] (defScope (topS 85)) := ⟨rfl, rfl, rfl, by decide +kernel, rfl, by decide +kernel, by decide +kernel⟩
theorem bn_run {K : PySem.W.Frag} (fd : FuncData) (f : Addr) (F : Fun K "run" "run" (topS 85) f fd) : Binds K fd ["play", "weaving"] [] := F.binds fun _ _ _ _ _ _ us hl => match us, hl with | [_, _], _ => rfl
abbrev n_run_out : List Str := ["play", "weaving", "here", "found", "left"]
theorem sc_run_out : FnScope n_run_out ["play", "weaving"] (defScope (topS 86)) := ⟨rfl, rfl, rfl, by decide +kernel, rfl, by decide +kernel, by decide +kernel⟩
theorem bn_run_out {K : PySem.W.Frag} (fd : FuncData) (f : Addr) (F : Fun K "run_out" "run_out" (topS 86) f fd) : Binds K fd ["play", "weaving"] [] := F.binds fun _ _ _ _ _ _ us hl => match us, hl with | [_, _], _ => rfl
abbrev n_is_came : List Str := ["play", "thing", "one", "other", "item"]
theorem sc_is_came : FnScope n_is_came ["play", "thing"] (defScope (topS 89)) := ⟨rfl, rfl, rfl, by decide +kernel, rfl, by decide +kernel, by decide +kernel⟩
theorem bn_is_came {K : PySem.W.Frag} (fd : FuncData) (f : Addr) (F : Fun K "is_came" "is_came" (topS 89) f fd) : Binds K fd ["play", "thing"] [] := F.binds fun _ _ _ _ _ _ us hl => match us, hl with | [_, _], _ => rfl
abbrev n_is_number_and_value : List Str := ["thing"]
theorem sc_is_number_and_value : FnScope n_is_number_and_value ["thing"] (defScope (topS 90)) := ⟨rfl, rfl, rfl, by decide +kernel, rfl, by decide +kernel, by decide +kernel⟩
theorem bn_is_number_and_value {K : PySem.W.Frag} (fd : FuncData) (f : Addr) (F : Fun K "is_number_and_value" "is_number_and_value" (topS 90) f fd) : Binds K fd ["thing"] [] := F.binds fun _ _ _ _ _ _ us hl => match us, hl with | [_], _ => rfl
abbrev n_is_at_once : List Str := ["play", "thing", "item"]
theorem sc_is_at_once : FnScope n_is_at_once ["play", "thing"] (defScope (topS 92)) := ⟨rfl, rfl, rfl, by decide +kernel, rfl, by decide +kernel, by decide +kernel⟩
theorem bn_is_at_once {K : PySem.W.Frag} (fd : FuncData) (f : Addr) (F : Fun K "is_at_once" "is_at_once" (topS 92) f fd) : Binds K fd ["play", "thing"] [] := F.binds fun _ _ _ _ _ _ us hl => match us, hl with | [_, _], _ => rfl
abbrev n_is_item : List Str := ["play", "thing"]
theorem sc_is_item : FnScope n_is_item ["play", "thing"] (defScope (topS 93)) := ⟨rfl, rfl, rfl, by decide +kernel, rfl, by decide +kernel, by decide +kernel⟩
theorem bn_is_item {K : PySem.W.Frag} (fd : FuncData) (f : Addr) (F : Fun K "is_item" "is_item" (topS 93) f fd) : Binds K fd ["play", "thing"] [] := F.binds fun _ _ _ _ _ _ us hl => match us, hl with | [_, _], _ => rfl
abbrev n_most_told : List Str := ["play", "hand", "deed"]
theorem sc_most_told : FnScope n_most_told ["play", "hand"] (defScope (topS 94)) := ⟨rfl, rfl, rfl, by decide +kernel, rfl, by decide +kernel, by decide +kernel⟩
theorem bn_most_told {K : PySem.W.Frag} (fd : FuncData) (f : Addr) (F : Fun K "most_told" "most_told" (topS 94) f fd) : Binds K fd ["play", "hand"] [] := F.binds fun _ _ _ _ _ _ us hl => match us, hl with | [_, _], _ => rfl
abbrev n_is_told : List Str := ["play", "thing", "many", "hand", "items", "item"]
theorem sc_is_told : FnScope n_is_told ["play", "thing"] (defScope (topS 95)) := ⟨rfl, rfl, rfl, by decide +kernel, rfl, by decide +kernel, by decide +kernel⟩
theorem bn_is_told {K : PySem.W.Frag} (fd : FuncData) (f : Addr) (F : Fun K "is_told" "is_told" (topS 95) f fd) : Binds K fd ["play", "thing"] [] := F.binds fun _ _ _ _ _ _ us hl => match us, hl with | [_, _], _ => rfl
abbrev n_flat : List Str := ["told", "found", "items"]
theorem sc_flat : FnScope n_flat ["told"] (defScope (topS 96)) := ⟨rfl, rfl, rfl, by decide +kernel, rfl, by decide +kernel, by decide +kernel⟩
theorem bn_flat {K : PySem.W.Frag} (fd : FuncData) (f : Addr) (F : Fun K "flat" "flat" (topS 96) f fd) : Binds K fd ["told"] [] := F.binds fun _ _ _ _ _ _ us hl => match us, hl with | [_], _ => rfl
abbrev n_is_within_lot : List Str := ["one", "other", "item"]
theorem sc_is_within_lot : FnScope n_is_within_lot ["one", "other"] (defScope (topS 98)) := ⟨rfl, rfl, rfl, by decide +kernel, rfl, by decide +kernel, by decide +kernel⟩
theorem bn_is_within_lot {K : PySem.W.Frag} (fd : FuncData) (f : Addr) (F : Fun K "is_within_lot" "is_within_lot" (topS 98) f fd) : Binds K fd ["one", "other"] [] := F.binds fun _ _ _ _ _ _ us hl => match us, hl with | [_, _], _ => rfl
abbrev n_are_chain : List Str := ["items", "is_less", "at", "one", "other"]
theorem sc_are_chain : FnScope n_are_chain ["items", "is_less"] (defScope (topS 99)) := ⟨rfl, rfl, rfl, by decide +kernel, rfl, by decide +kernel, by decide +kernel⟩
theorem bn_are_chain {K : PySem.W.Frag} (fd : FuncData) (f : Addr) (F : Fun K "are_chain" "are_chain" (topS 99) f fd) : Binds K fd ["items", "is_less"] [] := F.binds fun _ _ _ _ _ _ us hl => match us, hl with | [_, _], _ => rfl
abbrev n_hands_of : List Str := ["item", "hand", "value"]
theorem sc_hands_of : FnScope n_hands_of ["item"] (defScope (topS 102)) := ⟨rfl, rfl, rfl, by decide +kernel, rfl, by decide +kernel, by decide +kernel⟩
theorem bn_hands_of {K : PySem.W.Frag} (fd : FuncData) (f : Addr) (F : Fun K "hands_of" "hands_of" (topS 102) f fd) : Binds K fd ["item"] [] := F.binds fun _ _ _ _ _ _ us hl => match us, hl with | [_], _ => rfl
abbrev n_is_strange : List Str := ["play", "came", "item", "hand", "value"]
theorem sc_is_strange : FnScope n_is_strange ["play", "came", "item"] (defScope (topS 103)) := ⟨rfl, rfl, rfl, by decide +kernel, rfl, by decide +kernel, by decide +kernel⟩
theorem bn_is_strange {K : PySem.W.Frag} (fd : FuncData) (f : Addr) (F : Fun K "is_strange" "is_strange" (topS 103) f fd) : Binds K fd ["play", "came", "item"] [] := F.binds fun _ _ _ _ _ _ us hl => match us, hl with | [_, _, _], _ => rfl
abbrev n_has_more : List Str := ["told", "item", "hand", "other"]
theorem sc_has_more : FnScope n_has_more ["told", "item"] (defScope (topS 104)) := ⟨rfl, rfl, rfl, by decide +kernel, rfl, by decide +kernel, by decide +kernel⟩
theorem bn_has_more {K : PySem.W.Frag} (fd : FuncData) (f : Addr) (F : Fun K "has_more" "has_more" (topS 104) f fd) : Binds K fd ["told", "item"] [] := F.binds fun _ _ _ _ _ _ us hl => match us, hl with | [_, _], _ => rfl
abbrev n_level_fault : List Str := ["play", "came", "told", "items", "hand", "item"]
theorem sc_level_fault : FnScope n_level_fault ["play", "came", "told"] (defScope (topS 105)) := ⟨rfl, rfl, rfl, by decide +kernel, rfl, by decide +kernel, by decide +kernel⟩
theorem bn_level_fault {K : PySem.W.Frag} (fd : FuncData) (f : Addr) (F : Fun K "level_fault" "level_fault" (topS 105) f fd) : Binds K fd ["play", "came", "told"] [] := F.binds fun _ _ _ _ _ _ us hl => match us, hl with | [_, _, _], _ => rfl
abbrev n_raw_fault : List Str := ["play", "came", "told", "hand", "items"]
theorem sc_raw_fault : FnScope n_raw_fault ["play", "came", "told"] (defScope (topS 109)) := ⟨rfl, rfl, rfl, by decide +kernel, rfl, by decide +kernel, by decide +kernel⟩
theorem bn_raw_fault {K : PySem.W.Frag} (fd : FuncData) (f : Addr) (F : Fun K "raw_fault" "raw_fault" (topS 109) f fd) : Binds K fd ["play", "came", "told"] [] := F.binds fun _ _ _ _ _ _ us hl => match us, hl with | [_, _, _], _ => rfl
abbrev n_fault : List Str := ["play", "came", "told"]
theorem sc_fault : FnScope n_fault ["play", "came", "told"] (defScope (topS 110)) := ⟨rfl, rfl, rfl, by decide +kernel, rfl, by decide +kernel, by decide +kernel⟩
theorem bn_fault {K : PySem.W.Frag} (fd : FuncData) (f : Addr) (F : Fun K "fault" "fault" (topS 110) f fd) : Binds K fd ["play", "came", "told"] [] := F.binds fun _ _ _ _ _ _ us hl => match us, hl with | [_, _, _], _ => rfl
abbrev n__law_hand : List Str := ["_law_script", "_law_cells", "_law_cell"]
theorem sc__law_hand : FnScope n__law_hand ["_law_script"] (defScope (topS 112)) := ⟨rfl, rfl, rfl, by decide +kernel, rfl, by decide +kernel, by decide +kernel⟩
theorem bn__law_hand {K : PySem.W.Frag} (fd : FuncData) (f : Addr) (F : Fun K "_law_hand" "_law_hand" (topS 112) f fd) : Binds K fd ["_law_script"] [] := F.binds fun _ _ _ _ _ _ us hl => match us, hl with | [_], _ => rfl
abbrev n__law_draw : List Str := ["_law_hand_here", "_law_many", "_law_number", "_law_cell", "_law_digit"]
theorem sc__law_draw : FnScope n__law_draw ["_law_hand_here", "_law_many"] (defScope (topS 113)) := ⟨rfl, rfl, rfl, by decide +kernel, rfl, by decide +kernel, by decide +kernel⟩
theorem bn__law_draw {K : PySem.W.Frag} (fd : FuncData) (f : Addr) (F : Fun K "_law_draw" "_law_draw" (topS 113) f fd) : Binds K fd ["_law_hand_here", "_law_many"] [] := F.binds fun _ _ _ _ _ _ us hl => match us, hl with | [_, _], _ => rfl
abbrev n__law_some : List Str := ["_law_hand_here", "_law_things"]
theorem sc__law_some : FnScope n__law_some ["_law_hand_here", "_law_things"] (defScope (topS 114)) := ⟨rfl, rfl, rfl, by decide +kernel, rfl, by decide +kernel, by decide +kernel⟩
theorem bn__law_some {K : PySem.W.Frag} (fd : FuncData) (f : Addr) (F : Fun K "_law_some" "_law_some" (topS 114) f fd) : Binds K fd ["_law_hand_here", "_law_things"] [] := F.binds fun _ _ _ _ _ _ us hl => match us, hl with | [_, _], _ => rfl
abbrev n__law_is : List Str := ["_law_told", "_law_due", "_law_k", "_law_key"]
theorem sc__law_is : FnScope n__law_is ["_law_told", "_law_due"] (defScope (topS 116)) := ⟨rfl, rfl, rfl, by decide +kernel, rfl, by decide +kernel, by decide +kernel⟩
theorem bn__law_is {K : PySem.W.Frag} (fd : FuncData) (f : Addr) (F : Fun K "_law_is" "_law_is" (topS 116) f fd) : Binds K fd ["_law_told", "_law_due"] [] := F.binds fun _ _ _ _ _ _ us hl => match us, hl with | [_, _], _ => rfl
abbrev n__law_inputs : List Str := ["_law_hand_here", "_law_kind", "_law_many", "_law_rounds", "_law_rows", "_law_one"]
theorem sc__law_inputs : FnScope n__law_inputs ["_law_hand_here", "_law_kind"] (defScope (topS 117)) := ⟨rfl, rfl, rfl, by decide +kernel, rfl, by decide +kernel, by decide +kernel⟩
theorem bn__law_inputs {K : PySem.W.Frag} (fd : FuncData) (f : Addr) (F : Fun K "_law_inputs" "_law_inputs" (topS 117) f fd) : Binds K fd ["_law_hand_here", "_law_kind"] [] := F.binds fun _ _ _ _ _ _ us hl => match us, hl with | [_, _], _ => rfl
abbrev n__law_begin : List Str := ["_law_kind", "_law_rows", "_law_many", "_law_cells", "_law_states", "_law_value"]
theorem sc__law_begin : FnScope n__law_begin ["_law_kind", "_law_rows"] (defScope (topS 118)) := ⟨rfl, rfl, rfl, by decide +kernel, rfl, by decide +kernel, by decide +kernel⟩
theorem bn__law_begin {K : PySem.W.Frag} (fd : FuncData) (f : Addr) (F : Fun K "_law_begin" "_law_begin" (topS 118) f fd) : Binds K fd ["_law_kind", "_law_rows"] [] := F.binds fun _ _ _ _ _ _ us hl => match us, hl with | [_, _], _ => rfl
abbrev n__law_next : List Str := ["_law_kind", "_law_state"]
theorem sc__law_next : FnScope n__law_next ["_law_kind", "_law_state"] (defScope (topS 119)) := ⟨rfl, rfl, rfl, by decide +kernel, rfl, by decide +kernel, by decide +kernel⟩
theorem bn__law_next {K : PySem.W.Frag} (fd : FuncData) (f : Addr) (F : Fun K "_law_next" "_law_next" (topS 119) f fd) : Binds K fd ["_law_kind", "_law_state"] [] := F.binds fun _ _ _ _ _ _ us hl => match us, hl with | [_, _], _ => rfl
abbrev n__law_level : List Str := ["_law_rows", "_law_cells", "_law_hand_here", "_law_state", "_law_now", "_law_below", "_law_level_here", "_law_one"]
theorem sc__law_level : FnScope n__law_level ["_law_rows", "_law_cells", "_law_hand_here", "_law_state"] (defScope (topS 120)) := ⟨rfl, rfl, rfl, by decide +kernel, rfl, by decide +kernel, by decide +kernel⟩
theorem bn__law_level {K : PySem.W.Frag} (fd : FuncData) (f : Addr) (F : Fun K "_law_level" "_law_level" (topS 120) f fd) : Binds K fd ["_law_rows", "_law_cells", "_law_hand_here", "_law_state"] [] := F.binds fun _ _ _ _ _ _ us hl => match us, hl with | [_, _, _, _], _ => rfl
abbrev n__law_moved : List Str := ["_law_kind", "_law_rows", "_law_rounds", "_law_standing", "_law_hand_here", "_law_cells", "_law_states", "_law_told", "_law_cell", "_law_state", "_law_item"]
theorem sc__law_moved : FnScope n__law_moved ["_law_kind", "_law_rows", "_law_rounds", "_law_standing", "_law_hand_here"] (defScope (topS 124)) := ⟨rfl, rfl, rfl, by decide +kernel, rfl, by decide +kernel, by decide +kernel⟩
theorem bn__law_moved {K : PySem.W.Frag} (fd : FuncData) (f : Addr) (F : Fun K "_law_moved" "_law_moved" (topS 124) f fd) : Binds K fd ["_law_kind", "_law_rows", "_law_rounds", "_law_standing", "_law_hand_here"] [] := F.binds fun _ _ _ _ _ _ us hl => match us, hl with | [_, _, _, _, _], _ => rfl
abbrev n__law_left : List Str := ["_law_standing", "_law_one"]
theorem sc__law_left : FnScope n__law_left ["_law_standing"] (defScope (topS 125)) := ⟨rfl, rfl, rfl, by decide +kernel, rfl, by decide +kernel, by decide +kernel⟩
theorem bn__law_left {K : PySem.W.Frag} (fd : FuncData) (f : Addr) (F : Fun K "_law_left" "_law_left" (topS 125) f fd) : Binds K fd ["_law_standing"] [] := F.binds fun _ _ _ _ _ _ us hl => match us, hl with | [_], _ => rfl
abbrev n__law_woven : List Str := ["_law_hand_here", "_law_kind", "_law_rows", "_law_rounds", "_law_most", "_law_turn", "_law_found", "_law_stood", "_law_way", "_law_stops", "_law_one", "_law_left_here", "_law_behind", "_law_other"]
theorem sc__law_woven : FnScope n__law_woven ["_law_hand_here", "_law_kind", "_law_rows", "_law_rounds", "_law_most"] (defScope (topS 126)) := ⟨rfl, rfl, rfl, by decide +kernel, rfl, by decide +kernel, by decide +kernel⟩
theorem bn__law_woven {K : PySem.W.Frag} (fd : FuncData) (f : Addr) (F : Fun K "_law_woven" "_law_woven" (topS 126) f fd) : Binds K fd ["_law_hand_here", "_law_kind", "_law_rows", "_law_rounds", "_law_most"] [] := F.binds fun _ _ _ _ _ _ us hl => match us, hl with | [_, _, _, _, _], _ => rfl
abbrev n__law_whole : List Str := ["_law_kind", "_law_rows", "_law_rounds", "_law_weaving", "_law_standing", "_law_found", "_law_turn", "_law_left_here"]
theorem sc__law_whole : FnScope n__law_whole ["_law_kind", "_law_rows", "_law_rounds", "_law_weaving", "_law_standing"] (defScope (topS 127)) := ⟨rfl, rfl, rfl, by decide +kernel, rfl, by decide +kernel, by decide +kernel⟩
theorem bn__law_whole {K : PySem.W.Frag} (fd : FuncData) (f : Addr) (F : Fun K "_law_whole" "_law_whole" (topS 127) f fd) : Binds K fd ["_law_kind", "_law_rows", "_law_rounds", "_law_weaving", "_law_standing"] [] := F.binds fun _ _ _ _ _ _ us hl => match us, hl with | [_, _, _, _, _], _ => rfl
abbrev n__law_came : List Str := ["_law_weaving"]
theorem sc__law_came : FnScope n__law_came ["_law_weaving"] (defScope (topS 128)) := ⟨rfl, rfl, rfl, by decide +kernel, rfl, by decide +kernel, by decide +kernel⟩
theorem bn__law_came {K : PySem.W.Frag} (fd : FuncData) (f : Addr) (F : Fun K "_law_came" "_law_came" (topS 128) f fd) : Binds K fd ["_law_weaving"] [] := F.binds fun _ _ _ _ _ _ us hl => match us, hl with | [_], _ => rfl
abbrev n__law_has : List Str := ["_law_one", "_law_other", "_law_item"]
theorem sc__law_has : FnScope n__law_has ["_law_one", "_law_other"] (defScope (topS 129)) := ⟨rfl, rfl, rfl, by decide +kernel, rfl, by decide +kernel, by decide +kernel⟩
theorem bn__law_has {K : PySem.W.Frag} (fd : FuncData) (f : Addr) (F : Fun K "_law_has" "_law_has" (topS 129) f fd) : Binds K fd ["_law_one", "_law_other"] [] := F.binds fun _ _ _ _ _ _ us hl => match us, hl with | [_, _], _ => rfl
abbrev n__law_are_chain : List Str := ["_law_items", "_law_one", "_law_other"]
theorem sc__law_are_chain : FnScope n__law_are_chain ["_law_items"] (defScope (topS 130)) := ⟨rfl, rfl, rfl, by decide +kernel, rfl, by decide +kernel, by decide +kernel⟩
theorem bn__law_are_chain {K : PySem.W.Frag} (fd : FuncData) (f : Addr) (F : Fun K "_law_are_chain" "_law_are_chain" (topS 130) f fd) : Binds K fd ["_law_items"] [] := F.binds fun _ _ _ _ _ _ us hl => match us, hl with | [_], _ => rfl
abbrev n__law_all : List Str := ["_law_told", "_law_found", "_law_items"]
theorem sc__law_all : FnScope n__law_all ["_law_told"] (defScope (topS 131)) := ⟨rfl, rfl, rfl, by decide +kernel, rfl, by decide +kernel, by decide +kernel⟩
theorem bn__law_all {K : PySem.W.Frag} (fd : FuncData) (f : Addr) (F : Fun K "_law_all" "_law_all" (topS 131) f fd) : Binds K fd ["_law_told"] [] := F.binds fun _ _ _ _ _ _ us hl => match us, hl with | [_], _ => rfl
abbrev n__law_level_fault : List Str := ["_law_rows", "_law_came_here", "_law_told", "_law_items", "_law_hands", "_law_item", "_law_mine", "_law_other", "_law_pair", "_law_one", "_law_more"]
theorem sc__law_level_fault : FnScope n__law_level_fault ["_law_rows", "_law_came_here", "_law_told"] (defScope (topS 132)) := ⟨rfl, rfl, rfl, by decide +kernel, rfl, by decide +kernel, by decide +kernel⟩
theorem bn__law_level_fault {K : PySem.W.Frag} (fd : FuncData) (f : Addr) (F : Fun K "_law_level_fault" "_law_level_fault" (topS 132) f fd) : Binds K fd ["_law_rows", "_law_came_here", "_law_told"] [] := F.binds fun _ _ _ _ _ _ us hl => match us, hl with | [_, _, _], _ => rfl
abbrev n__law_fault : List Str := ["_law_kind", "_law_rows", "_law_rounds", "_law_came_here", "_law_told", "_law_items", "_law_one", "_law_item"]
theorem sc__law_fault : FnScope n__law_fault ["_law_kind", "_law_rows", "_law_rounds", "_law_came_here", "_law_told"] (defScope (topS 135)) := ⟨rfl, rfl, rfl, by decide +kernel, rfl, by decide +kernel, by decide +kernel⟩
theorem bn__law_fault {K : PySem.W.Frag} (fd : FuncData) (f : Addr) (F : Fun K "_law_fault" "_law_fault" (topS 135) f fd) : Binds K fd ["_law_kind", "_law_rows", "_law_rounds", "_law_came_here", "_law_told"] [] := F.binds fun _ _ _ _ _ _ us hl => match us, hl with | [_, _, _, _, _], _ => rfl
abbrev n__law_led_right : List Str := ["_law_hand_here", "_law_kind", "_law_rows", "_law_rounds", "_law_play", "_law_most", "_law_at", "_law_weaving", "_law_stood", "_law_one", "_law_whole_here", "_law_last", "_law_here", "_law_ahead"]
theorem sc__law_led_right : FnScope n__law_led_right ["_law_hand_here", "_law_kind", "_law_rows", "_law_rounds", "_law_play", "_law_most"] (defScope (topS 136)) := ⟨rfl, rfl, rfl, by decide +kernel, rfl, by decide +kernel, by decide +kernel⟩
theorem bn__law_led_right {K : PySem.W.Frag} (fd : FuncData) (f : Addr) (F : Fun K "_law_led_right" "_law_led_right" (topS 136) f fd) : Binds K fd ["_law_hand_here", "_law_kind", "_law_rows", "_law_rounds", "_law_play", "_law_most"] [] := F.binds fun _ _ _ _ _ _ us hl => match us, hl with | [_, _, _, _, _, _], _ => rfl
abbrev n_law : List Str := ["_law_script", "_law_hand_here", "_law_turn", "_law_last", "_law_inputs_here", "_law_rows", "_law_rounds", "_law_play", "_law_many", "_law_cell", "_law_items"]
theorem sc_law : FnScope n_law ["_law_script"] (defScope (topS 137)) := ⟨rfl, rfl, rfl, by decide +kernel, rfl, by decide +kernel, by decide +kernel⟩
theorem bn_law {K : PySem.W.Frag} (fd : FuncData) (f : Addr) (F : Fun K "law" "law" (topS 137) f fd) : Binds K fd ["_law_script"] [] := F.binds fun _ _ _ _ _ _ us hl => match us, hl with | [_], _ => rfl
abbrev n_init : List Str := ["self", "kind", "inputs"]
theorem sc_init : FnScope n_init ["self", "kind", "inputs"] (defScope (inClass (topS 39) 0)) := ⟨rfl, rfl, rfl, by decide +kernel, rfl, by decide +kernel, by decide +kernel⟩
end OP

set_option Elab.async false
set_option linter.all false
set_option maxRecDepth 100000
set_option maxHeartbeats 4000000
/-! OpD1: checks, plays, levels -/
namespace OP
open PySem PySem.Spec PyProof.Rows L2
section
variable {C : Addr} {X : Cx} {δ : Dn} {e : Expr} {pos p : Pos}
theorem de_cal {x : Str} {j k : Nat} {R : List W → W → Prop} {es : List Expr} {ws : List W} {w : W} (F : Okf X.prog X.w X.K X.mg X.base j x (spD C X.K R)) (hr : Room k X.A) (ha : Da C X δ (e :: es) ws) (h : R ws w) (hj : j ≤ k := by decide) (hg : Gl X x := by rfl) (hdb : (x == ("__debug__" : Str)) = false := by decide)
    (he : starEach (e :: es) X.env = (false, eval e X.env) :: starEach es X.env := by rfl) (hpl : (backTo pos (starEach es X.env)).any (·.1) = false := by rfl) : De C X δ (.Call (.Name x p) (e :: es) [] pos) w := de_call F (hr.mono hj) ha h hg hdb he hpl
/-- the three manners' names -/
abbrev manN : List Str := ["sweep", "twice", "borrow"]
theorem de_man (h : ∃ a, X.mg "MANNERS" = some (.ref a) ∧ ∀ H : Hp, SqT X.K H a (manN.map V.str)) (hg : Gl X "MANNERS" := by rfl) : De C X δ (.Name "MANNERS" p) (.d (.tup (manN.map D.str))) := by
  obtain ⟨a, hm, hs⟩ := h
  exact de_glob (v := .ref a) hm rfl (fun H => Rp.tup (hs H) (Rps.strs manN)) hg
theorem dr_noMan {i : Str} (hk : inV (.str i) (manN.map V.str) = false := by decide +kernel) : DR C X (compareOp .In) (.d (.str i)) (.d (.tup (manN.map D.str))) (.d (.bl false)) := dr_inS hk
end
section
variable {P : Program} {w : World} {K : PySem.W.Frag} {mg : Str → Option Value} {base : Heap} {C : Addr}
/-! ### checks -/
def R_is_integer : List W → W → Prop := fun ws v => ∃ i, ws = [.d (.int i)] ∧ v = .d (.bl true)
theorem ok_is_integer (T : Tx K mg C) : Okf P w K mg base 1 "is_integer" (spD C K R_is_integer) := by
  refine okD T.a_is_integer sc_is_integer bn_is_integer (fun ws v ⟨i, h, _⟩ => h ▸ rfl) fun f cdv A outer s H E hr ws v h => ?_
  obtain ⟨i, rfl, rfl⟩ := h
  exact ds_ret (De.is (de_and (de_isi (k := true) (dv 0 rfl rfl) T.f_isinstance T.f_int bb_int) fun _ => (de_one (de_not (de_isi (k := false) (dv 0 rfl rfl) T.f_isinstance T.f_bool bb_bool)))) rfl) rfl
def R_is_within : List W → W → Prop := fun ws v => ∃ i a b, ws = [.d (.int i), .d (.int a), .d (.int b)] ∧ v = .d (.bl (decide (a ≤ i) && decide (i ≤ b)))
theorem ok_is_within (T : Tx K mg C) : Okf P w K mg base 2 "is_within" (spD C K R_is_within) := by
  refine okD T.a_is_within sc_is_within bn_is_within (fun ws v ⟨_, _, _, h, _⟩ => h ▸ rfl) fun f cdv A outer s H E hr ws v h => ?_
  obtain ⟨i, a, b, rfl, rfl⟩ := h
  exact ds_ret (De.is (de_and (de_cal (ok_is_integer T) hr (da_cons (dv 0 rfl rfl) da_nil) ⟨i, rfl, rfl⟩) fun _ => (de_one (de_chain dr_le ⟨_, op_le⟩ (fun _ => dr_le) (dv 1 rfl rfl) (dv 0 rfl rfl) (dv 2 rfl rfl)))) rfl) rfl
def R_is_below : List W → W → Prop := fun ws v => ∃ i n, ws = [.d (.int i), .d (.int n)] ∧ v = .d (.bl (decide (0 ≤ i) && decide (i ≤ n - 1)))
theorem ok_is_below (T : Tx K mg C) : Okf P w K mg base 3 "is_below" (spD C K R_is_below) := by
  refine okD T.a_is_below sc_is_below bn_is_below (fun ws v ⟨_, _, h, _⟩ => h ▸ rfl) fun f cdv A outer s H E hr ws v h => ?_
  obtain ⟨i, n, rfl, rfl⟩ := h
  exact ds_ret (de_cal (ok_is_within T) hr (da_cons (dv 0 rfl rfl) (da_cons de_int (da_cons (de_bin dr_sub (dv 1 rfl rfl) de_int) da_nil))) ⟨_, _, _, rfl, rfl⟩) rfl
def R_is_sized : List W → W → Prop := fun ws v => ∃ xs a b, ws = [.d (.tup xs), .d (.int a), .d (.int b)] ∧ v = .d (.bl (decide (a ≤ (xs.length : Int)) && decide ((xs.length : Int) ≤ b)))
theorem ok_is_sized (T : Tx K mg C) : Okf P w K mg base 1 "is_sized" (spD C K R_is_sized) := by
  refine okD T.a_is_sized sc_is_sized bn_is_sized (fun ws v ⟨_, _, _, h, _⟩ => h ▸ rfl) fun f cdv A outer s H E hr ws v h => ?_
  obtain ⟨xs, a, b, rfl, rfl⟩ := h
  exact ds_ret (De.is (de_and (de_isi (k := true) (dv 0 rfl rfl) T.f_isinstance T.f_tuple bb_tuple) fun _ => (de_one (de_chain dr_le ⟨_, op_le⟩ (fun _ => dr_le) (dv 1 rfl rfl) (de_callB dc_lenT T.f_len (da_cons (dv 0 rfl rfl) da_nil)) (dv 2 rfl rfl)))) rfl) rfl
def R_is_pair : List W → W → Prop := fun ws v => ∃ x y, ws = [.d (.tup [x, y])] ∧ v = .d (.bl true)
theorem ok_is_pair (T : Tx K mg C) : Okf P w K mg base 2 "is_pair" (spD C K R_is_pair) := by
  refine okD T.a_is_pair sc_is_pair bn_is_pair (fun ws v ⟨_, _, h, _⟩ => h ▸ rfl) fun f cdv A outer s H E hr ws v h => ?_
  obtain ⟨x, y, rfl, rfl⟩ := h
  exact ds_ret (de_cal (ok_is_sized T) hr (da_cons (dv 0 rfl rfl) (da_cons de_int (da_cons de_int da_nil))) ⟨_, _, _, rfl, rfl⟩) rfl
def R_is_listed : List W → W → Prop := fun ws v => ∃ xs, (ws = [.d (.tup xs)] ∨ ws = [.l xs]) ∧ v = .d (.bl true)
theorem ok_is_listed (T : Tx K mg C) : Okf P w K mg base 1 "is_listed" (spD C K R_is_listed) := by
  refine okD T.a_is_listed sc_is_listed bn_is_listed (fun ws v ⟨_, h, _⟩ => by rcases h with h | h <;> exact h ▸ rfl) fun f cdv A outer s H E hr ws v h => ?_
  obtain ⟨xs, h, rfl⟩ := h
  rcases h with rfl | rfl
  · exact ds_ret (de_isi2 (k := true) (dv 0 rfl rfl) T.f_isinstance T.f_list T.f_tuple bb_list bb_tuple) rfl
  · exact ds_ret (de_isi2 (k := true) (dv 0 rfl rfl) T.f_isinstance T.f_list T.f_tuple bb_list bb_tuple) rfl
def R_replaced : List W → W → Prop := fun ws v => ∃ xs n x, ws = [.d (.tup xs), .d (nI n), .d x] ∧ n < xs.length ∧ xs.length ≤ 1000 ∧ v = .d (.tup (xs.set n x))
theorem ok_replaced (T : Tx K mg C) : Okf P w K mg base 1 "replaced" (spD C K R_replaced) := by
  refine okD T.a_replaced sc_replaced bn_replaced (fun ws v ⟨_, _, _, h, _⟩ => h ▸ rfl) fun f cdv A outer s H E hr ws v h => ?_
  obtain ⟨xs, n, x, rfl, hn, hz, rfl⟩ := h
  have e1 : cutD xs none (some (n : Int)) = xs.take n := cutD_upto (Nat.le_of_lt hn)
  have e2 : cutD xs (some ((n : Int) + 1)) none = xs.drop (n + 1) := cutD_from (n := n + 1) hn
  refine ds_ret (De.is (de_bin (dr_catT ?_) (de_bin (dr_catT ?_) (de_slT (dv 0 rfl rfl) do_none (do_some (dv 1 rfl rfl))) (de_tup (dd_cons (dv 2 rfl rfl) dd_nil))) (de_slT (dv 0 rfl rfl) (do_some (de_bin dr_add (dv 1 rfl rfl) de_int)) do_none)) ?_) rfl
  · rw [e1, e2]
    simp
    omega
  · rw [e1]
    simp
    omega
  · rw [e1, e2, set_cut x hn]
/-! ### plays -/
def R_is_value : List W → W → Prop := fun ws v => ∃ i, ws = [.d (.int i)] ∧ v = .d (.bl (decide (0 ≤ i) && decide (i ≤ 1000 - 1)))
theorem ok_is_value (T : Tx K mg C) : Okf P w K mg base 4 "is_value" (spD C K R_is_value) := by
  refine okD T.a_is_value sc_is_value bn_is_value (fun ws v ⟨_, h, _⟩ => h ▸ rfl) fun f cdv A outer s H E hr ws v h => ?_
  obtain ⟨i, rfl, rfl⟩ := h
  exact ds_ret (de_cal (ok_is_below T) hr (da_cons (dv 0 rfl rfl) (da_cons (de_gint T.i_MOST_VALUE) da_nil)) ⟨_, _, rfl, rfl⟩) rfl
def R_is_hand : List W → W → Prop := fun ws v => ∃ rows h, ws = [.d (.play rows), .d (nI h)] ∧ h < rows.length ∧ v = .d (.bl true)
theorem ok_is_hand (T : Tx K mg C) : Okf P w K mg base 4 "is_hand" (spD C K R_is_hand) := by
  refine okD T.a_is_hand sc_is_hand bn_is_hand (fun ws v ⟨_, _, h, _⟩ => h ▸ rfl) fun f cdv A outer s H E hr ws v h => ?_
  obtain ⟨rows, h, rfl, hh, rfl⟩ := h
  refine ds_ret (de_cal (ok_is_below T) hr (da_cons (dv 1 rfl rfl) (da_cons (de_callB dc_lenT T.f_len (da_cons (de_rows (dv 0 rfl rfl) T.cls T.na_rows) da_nil)) da_nil)) ⟨_, _, rfl, rfl⟩) ?_
  have e : (decide (0 ≤ (h : Int)) && decide ((h : Int) ≤ ((rows.map D.int).length : Int) - 1)) = true := by
    rw [List.length_map]
    simp
    omega
  show W.d (.bl _) = _
  rw [e]
def R_check_hand : List W → W → Prop := fun ws v => ∃ rows h, ws = [.d (.play rows), .d (nI h)] ∧ h < rows.length ∧ v = .d .non
theorem ok_check_hand (T : Tx K mg C) : Okf P w K mg base 5 "check_hand" (spD C K R_check_hand) := by
  refine okD T.a_check_hand sc_check_hand bn_check_hand (fun ws v ⟨_, _, h, _⟩ => h ▸ rfl) fun f cdv A outer s H E hr ws v h => ?_
  obtain ⟨rows, h, rfl, hh, rfl⟩ := h
  exact ds_ifF (dt_not (dt_val (de_cal (ok_is_hand T) hr (da_cons (dv 0 rfl rfl) (da_cons (dv 1 rfl rfl) da_nil)) ⟨rows, h, rfl, hh, rfl⟩))) (ds_nil (ds_nil rfl))
end
end OP

set_option Elab.async false
set_option linter.all false
set_option maxRecDepth 100000
set_option maxHeartbeats 4000000
/-! OpD2: list(range(n)), a tuple times a number; levels -/
namespace OP
open PySem PySem.Spec PyProof.Rows L2
theorem tup_mul1 (l : Addr) (items : Array Value) (n : Nat) (dd : Option Addr) (sl : Array (Option Value)) (u : Tok) (hne : items.isEmpty = false) :
    Meets (Builtin.«tuple.__mul__» ⟨[.ref l, .int 1 u], []⟩) (fun _ R s => s.heap.get? l = some { cls := .type "tuple", dict := dd, data := .seq items n, slots := sl } ∧ R (.ok (.ret (.ref l))) s) :=
  .of_wp fun prog w A R s h => by
    obtain ⟨hp, g, d, tk, os⟩ := s
    obtain ⟨hl, h⟩ := h
    have f1 := AutoSeq1.idx_int
    wp_walk using AutoSeq1.wpAny_loadPart' hl
    exact ⟨_, rfl, h⟩
section
variable {C : Addr} {X : Cx} {δ : Dn} {a b e : Expr} {pos p q : Pos}
def rRep1 (K : PySem.W.Frag) : R2 := fun x y H Q => ∃ l xs, x = .ref l ∧ y = .int 1 ∧ SqT K H l xs ∧ xs ≠ [] ∧ Q (.ref l) H
theorem op_rep1 : OpR X (binaryOp .Mult) (rRep1 X.K) := by
  intro pins s σ H x y v u Q I rx ry h
  obtain ⟨l, xs, rfl, rfl, hT, hne, z⟩ := h
  cases rx
  obtain ⟨t, rfl⟩ := ry
  obtain ⟨its, r, ⟨⟨oc, dd, dt, sl⟩, ho, hc, n, hd⟩, hs⟩ := I.tuple hT
  have hc' : oc = .type "tuple" := hc
  have hd' : dt = .seq its.toArray n := hd
  subst hc' hd'
  have hi : its.toArray.isEmpty = false := by
    cases its with
    | nil =>
      have := r.length
      exact absurd (List.eq_nil_of_length_eq_zero this) hne
    | cons a b => rfl
  exact wpAny_binaryOp_repeat_ref (T := "tuple") (U := "int") (by decide) ⟨_, ho, rfl⟩ (fun s' => typeIs_int s' 1 t) noFill_tuple_mul F.fills_int_mul F.slot_int_rmul repeat_tuple F.slot_int_index.lookup
    (call_meets F.slot_int_rmul (typeIs_int s 1 t) F.entry_int_rmul (F.args_int_rmul_2 _ _) (int_rmul_tuple 1 t l its.toArray n dd sl)
      ⟨ho, rfl, ⟨_, ho, rfl⟩, call_meets F.slot_tuple_mul ⟨_, ho, rfl⟩ F.entry_tuple_mul (F.args_tuple_mul_2 _ _) (tup_mul1 l its.toArray n dd sl t hi) ⟨ho, ⟨.ref l, H, I, rfl, z⟩⟩⟩)
theorem rep_flat1 {α : Type} (x : α) : ∀ n, (List.replicate n [x]).flatten = List.replicate n x
  | 0 => rfl
  | n + 1 => by
    rw [List.replicate_succ, List.flatten_cons, rep_flat1 x n]
    rfl
/-- (x,) * n -/
theorem dr_repT {x : D} {n : Nat} (h1 : 1 ≤ n) (h2 : n ≤ 1000) : DR C X (binaryOp .Mult) (.d (.tup [x])) (.d (.int (n : Nat))) (.d (.tup (List.replicate n x))) := by
  by_cases e : n = 1
  · subst e
    exact ⟨_, op_rep1, fun H y z Q ry rz q => by
      cases rz
      cases ry with
      | @tup a us _ hs rs => exact ⟨a, us, rfl, rfl, hs, (by intro z; subst z; cases rs), q _ H (Same.refl H) (.tup hs rs)⟩⟩
  · exact ⟨_, op_repT, fun H y z Q ry rz q => by
      cases rz
      cases ry with
      | @tup a us _ hs rs =>
        cases rs with
        | cons r1 t =>
          rename_i v0 vs0
          cases t
          refine ⟨a, _, _, rfl, rfl, hs, by simp, by omega, by omega, by simp, fun p hp => ?_⟩
          have s := same_new (o := .tup (List.replicate ((n : Int).toNat) [v0]).flatten) hp
          refine q _ _ s (.tup (SqT.of upd_same) ?_)
          have en : ((n : Int)).toNat = n := by omega
          rw [en, rep_flat1] at s ⊢
          exact Rps.rep (r1.mono (.of s)) n⟩
/-- [x] * n -/
theorem dl_repL {x : D} {n : Nat} (h : Dl C X δ a [x]) (h' : De C X δ b (.d (.int (n : Nat)))) (h2 : n ≤ 1000) : Dl C X δ (.BinOp a .Mult b pos) (List.replicate n x) := fun σ H Q E q => by
  refine ⟨_, pe_op op_rep pe_w pe_w, h σ H _ E fun m vs H1 hm s1 h1 r1 => h' σ H1 _ (E.mono s1) fun v H2 s2 r2 => ?_⟩
  cases r2
  cases r1 with
  | cons r1 t =>
    rename_i v0 vs0
    cases t
    refine ⟨m, n, _, rfl, rfl, s2 _ _ h1, by omega, by omega, szl (by simp; omega), fun p hp => ?_⟩
    have s := same_new (o := .lst (List.replicate ((n : Int).toNat) [v0]).flatten) hp
    have en : ((n : Int)).toNat = n := by omega
    refine q p _ _ ((s1.trans s2).free hp) (s1.trans (s2.trans s)) upd_same ?_
    rw [en, rep_flat1] at s ⊢
    exact Rps.rep (r1.mono (.of (s2.trans s))) n
/-- list(range(n)) -/
theorem dl_listRange {n : Nat} {pos2 : Pos} (h : De C X δ e (.d (.int (n : Nat)))) (hz : n ≤ 1000) (hl : X.mg "list" = none) (hm : X.mg "range" = none) (hc : X.calm = true := by rfl) (hgl : Gl X "list" := by rfl) (hg : Gl X "range" := by rfl)
    (na : starEach [e] X.env = (false, eval e X.env) :: starEach [] X.env := by rfl) (na2 : starEach [.Call (.Name "range" q) [e] [] pos2] X.env = (false, eval (.Call (.Name "range" q) [e] [] pos2) X.env) :: starEach [] X.env := by rfl) :
    Dl C X δ (.Call (.Name "list" p) [.Call (.Name "range" q) [e] [] pos2] [] pos) ((List.range n).map nI) := fun σ H Q E k => by
  refine ⟨_, pe_listRg hc hgl hl (prg_1 hg hm pe_w na) na2, h σ H _ E fun v H1 s1 r1 => ?_⟩
  cases r1
  refine ⟨n, rfl, RgOk.of_le (by omega) (by omega) (by omega) (by omega), fun m hm' => ?_⟩
  have s := same_new (o := .lst (rgV 0 (n : Int))) hm'
  refine k m _ _ (s1.free hm') (s1.trans s) upd_same ?_
  have e : rgV 0 (n : Int) = ((List.range n).map (fun i : Nat => ((i : Nat) : Int))).map V.int := by
    unfold rgV
    rw [List.map_map]
    have e0 : ((n : Int) - 0).toNat = n := by omega
    rw [e0]
    refine List.map_congr_left fun i _ => ?_
    show V.int (0 + (i : Int)) = V.int (i : Int)
    rw [Int.zero_add]
  rw [e]
  have e2 : (List.range n).map nI = ((List.range n).map (fun i : Nat => ((i : Nat) : Int))).map D.int := by
    rw [List.map_map]
    rfl
  rw [e2]
  exact Rps.ints _
end
section
variable {P : Program} {w : World} {K : PySem.W.Frag} {mg : Str → Option Value} {base : Heap} {C : Addr}
/-! ### levels -/
def R_level_cell : List W → W → Prop := fun ws v => ∃ rows h, ws = [.d (.play rows), .d (nI h)] ∧ v = .d .non
theorem ok_level_cell (T : Tx K mg C) : Okf P w K mg base 1 "level_cell" (spD C K R_level_cell) := by
  refine okD T.a_level_cell sc_level_cell bn_level_cell (fun ws v ⟨_, _, h, _⟩ => h ▸ rfl) fun f cdv A outer s H E hr ws v h => ?_
  obtain ⟨rows, h, rfl, rfl⟩ := h
  exact ds_ret de_non rfl
def R_level_state : List W → W → Prop := fun ws v => ∃ rows h, ws = [.d (.play rows), .d (nI h)] ∧ v = .d (eS (some ((rows.length : Int) + 1, none)))
theorem ok_level_state (T : Tx K mg C) : Okf P w K mg base 1 "level_state" (spD C K R_level_state) := by
  refine okD T.a_level_state sc_level_state bn_level_state (fun ws v ⟨_, _, h, _⟩ => h ▸ rfl) fun f cdv A outer s H E hr ws v h => ?_
  obtain ⟨rows, h, rfl, rfl⟩ := h
  exact ds_ret (De.is (de_tup (dd_cons (de_bin dr_add (de_callB dc_lenT T.f_len (da_cons (de_rows (dv 0 rfl rfl) T.cls T.na_rows) da_nil)) de_int) (dd_cons de_non dd_nil))) (by simp [eS, eN])) rfl
/-- what the next step is -/
def nextD (o : Option (List Cell)) : D := match o with
  | none => .tup [.str "put"]
  | some now => .tup [.str "look", .int (now.length : Int)]
def R_level_next : List W → W → Prop := fun ws v => ∃ rows h l o, ws = [.d (.play rows), .d (nI h), .d (eS (some (l, o)))] ∧ v = .d (nextD o)
theorem ok_level_next (T : Tx K mg C) : Okf P w K mg base 1 "level_next" (spD C K R_level_next) := by
  refine okD T.a_level_next sc_level_next bn_level_next (fun ws v ⟨_, _, _, _, h, _⟩ => h ▸ rfl) fun f cdv A outer s H E hr ws v h => ?_
  obtain ⟨rows, h, l, o, rfl, rfl⟩ := h
  cases o with
  | none => exact ds_ret (de_ifT (dt_cmp dr_isN (de_ix (dx_t rfl) (dv 2 rfl rfl) de_int) de_non) (de_tup (dd_cons (de_gstr T.s_PUT) dd_nil))) rfl
  | some now => exact ds_ret (De.is (de_ifF (dt_cmp dr_isN (de_ix (dx_t rfl) (dv 2 rfl rfl) de_int) de_non) (de_tup (dd_cons (de_gstr T.s_LOOK_levels) (dd_cons (de_callB dc_lenT T.f_len (da_cons (de_ix (dx_t rfl) (dv 2 rfl rfl) de_int) da_nil)) dd_nil)))) (by simp [nextD])) rfl
end
end OP

set_option Elab.async false
set_option linter.all false
set_option maxRecDepth 100000
set_option maxHeartbeats 4000000
/-! OpD3: level_after, kinds, standings, steps -/
namespace OP
open PySem PySem.Spec PyProof.Rows L2
section
variable {C : Addr} {X : Cx} {o : Option Nat} {δ : Dn} {rest : List Stmt} {O : Ot} {e : Expr} {pos p q p2 : Pos}
theorem ds_setA {α : Type} {i : Nat} {x : Str} {t : Bool} {elt tg iter : Expr} {ifs : List Expr} {scope : Scope} {own : List (Str × Nat)} {g : TG} {xs : List α} {enc : α → W} (pp : α → Bool) (f : α → D) {py : Pos} (hy : X.N[i]? = some x) (ok : BlkOk X.N X.env.scope scope own)
    (hg : ∀ (s : Shared) (H : Hp) (Cc : Addr) (cl : List (Str × Addr)) (fp : List Addr), PG (X.blk s H scope (compEnvC scope cl Cc X.env) fp) tg g)
    (hi : Di t C X δ tg iter (xs.map enc)) (hN : X.N.Nodup) (hz : xs.length ≤ 50000)
    (h : ∀ x ∈ xs, ∃ δ', Dg X.K C g (enc x) (wipeD δ (own.map (·.2))) δ' (own.map (·.2)) ∧
      (∀ (s : Shared) (H : Hp) (Cc : Addr) (cl : List (Str × Addr)) (fp : List Addr), Dts C (X.blk s H scope (compEnvC scope cl Cc X.env) fp) δ' ifs (pp x)) ∧
      (pp x = true → ∀ (s : Shared) (H : Hp) (Cc : Addr) (cl : List (Str × Addr)) (fp : List Addr), De C (X.blk s H scope (compEnvC scope cl Cc X.env) fp) δ' elt (.d (f x))))
    (k : Ds C X none (δ.set i (some (.l ((xs.filter pp).map f)))) rest O)
    (hyl : X.env.scope.names.lookup x = some .local := by rfl) (hsw : swapsWith (.ListComp elt [⟨tg, iter, ifs, 0⟩] scope pos) (some (.Name x py)) p.line X.env = pure true := by exact sw_true rfl rfl rfl (by decide +kernel))
    (hc : X.calm = true := by rfl) (hs : ∀ x, foldedSetIterable iter X.env x = pure x := by intro _; rfl) : Ds C X none δ (.Assign [.Name x py] (.ListComp elt [⟨tg, iter, ifs, 0⟩] scope pos) p :: rest) O :=
  ds_setLc hy ok hg hi (turns_of pp f .non h) (by rw [List.length_map]; exact hz) hN (by rw [List.length_map, given_of pp f .non xs]; exact k) hyl hsw hc hs
theorem dts_nil : Dts C X δ [] true := fun σ H Q E q => ⟨_, pts_nil, q H (Same.refl H)⟩
end
theorem isNon_eN (o : Option (List Cell)) : isNon (.d (eN o)) = o.isNone := by cases o <;> rfl
theorem isNon_eC (c : Cell) : isNon (.d (eC c)) = c.isNone := by cases c <;> rfl
theorem isNon_eS (c : Sta) : isNon (.d (eS c)) = c.isNone := by rcases c with _ | ⟨l, o⟩ <;> rfl
theorem isNon_eO (c : Option Item) : isNon (.d (eO c)) = c.isNone := by cases c <;> rfl
theorem nr_eN (o : Option (List Cell)) : ∀ u, W.d (eN o) ≠ .d (.raw u) := fun u z => by cases o <;> cases z
theorem nr_eC (o : Cell) : ∀ u, W.d (eC o) ≠ .d (.raw u) := fun u z => by cases o <;> cases z
theorem nr_eS (o : Sta) : ∀ u, W.d (eS o) ≠ .d (.raw u) := fun u z => by rcases o with _ | ⟨l, o⟩ <;> cases z
theorem nr_eO (o : Option Item) : ∀ u, W.d (eO o) ≠ .d (.raw u) := fun u z => by cases o <;> cases z
section
variable {P : Program} {w : World} {K : PySem.W.Frag} {mg : Str → Option Value} {base : Heap} {C : Addr}
def R_level_after : List W → W → Prop := fun ws v => ∃ rows h cells st, ws = [.d (.play rows), .d (nI h), .d (.tup (cells.map eC)), .d (eS (some st))] ∧ h < rows.length ∧ cells.length ≤ 1000 ∧ (∀ now, st.2 = some now → now.length < cells.length) ∧ v = .d (eA (after rows h cells st))
theorem ok_level_after (T : Tx K mg C) : Okf P w K mg base 1 "level_after" (spD C K R_level_after) := by
  refine okD T.a_level_after sc_level_after bn_level_after (fun ws v ⟨_, _, _, _, h, _⟩ => h ▸ rfl) fun f cdv A outer s H E hr ws v h => ?_
  obtain ⟨rows, h, cells, ⟨l, o⟩, rfl, hh, hz, hnow, rfl⟩ := h
  have nd := sc_level_after.nd
  refine ds_un2 (i := 6) (j := 7) (dv 3 rfl rfl) ?_ nd
  cases o with
  | none =>
    refine ds_ifT (dt_cmp (dr_isN (nr_eN _)) (dv 7 rfl rfl) de_non) (ds_ret (w := .d (eA (after rows h cells (l, none)))) (de_tup (dd_cons (de_tup (dd_cons (de_bin dr_sub (dv 6 rfl rfl) de_int) (dd_cons (de_ix (dx_t (atI_map D.int ?_)) (de_rows (dv 0 rfl rfl) T.cls T.na_rows) (dv 1 rfl rfl)) dd_nil))) (dd_cons (de_tup (dd_cons (de_bin dr_sub (dv 6 rfl rfl) de_int) (dd_cons (de_tup dd_nil) dd_nil))) (dd_cons de_non dd_nil)))) rfl)
    rw [List.getD_eq_getElem?_getD, List.getElem?_eq_getElem hh]
    rfl
  | some now =>
    have hn := hnow now rfl
    refine ds_skip (dt_cmp (dr_isN (nr_eN _)) (dv 7 rfl rfl) de_non) ?_
    generalize hlk : now ++ [cells.getD now.length none] = looked
    have hc : cells[now.length]? = some (cells.getD now.length none) := by
      rw [List.getD_eq_getElem?_getD, List.getElem?_eq_getElem hn]
      rfl
    have hll : looked.length = now.length + 1 := by rw [← hlk, List.length_append]; rfl
    have hix : atI (cells.map eC) (((now.map eC).length : Nat) : Int) = some (eC (cells.getD now.length none)) := by
      rw [List.length_map]
      exact atI_map eC hc
    refine ds_set (i := 4) (De.is (w' := .d (.tup (looked.map eC))) (de_bin (dr_catT (by simp; omega)) (dv 7 rfl rfl) (de_tup (dd_cons (de_ix (dx_t hix) (dv 2 rfl rfl) (de_callB dc_lenT T.f_len (da_cons (dv 7 rfl rfl) da_nil))) dd_nil))) (by rw [← hlk, List.map_append]; rfl)) ?_ nd
    have hlen : ∀ {α β : Type} (f : α → β) (xs : List α), ((xs.map f).length : Int) = (xs.length : Int) := fun f xs => by rw [List.length_map]
    refine ds_if (k := decide (looked.length < cells.length)) (Dt.is (dt_cmp dr_lt (de_callB dc_lenT T.f_len (da_cons (dv 4 rfl rfl) da_nil)) (de_callB dc_lenT T.f_len (da_cons (dv 2 rfl rfl) da_nil))) (by simp)) (fun hk => ?_) fun hk => ?_
    · have hk := of_decide_eq_true hk
      refine ds_ret (de_tup (dd_cons de_non (dd_cons (de_tup (dd_cons (dv 6 rfl rfl) (dd_cons (dv 4 rfl rfl) dd_nil))) (dd_cons de_non dd_nil)))) ?_
      simp only [after, hlk, if_pos hk]
      rfl
    · have hk := of_decide_eq_false hk
      refine ds_nil ?_
      refine ds_setA (i := 5) (own := [("other", 8), ("cell", 9)]) (g := gTup K 2 (gCons (gName 8) (gCons (gName 9) gNil))) (xs := looked.zipIdx) (enc := fun z => .d (.tup [.int (z.2 : Nat), eC z.1])) (fun z => isBelow l z.1) (fun z => eP ((z.2 : Nat), valC z.1)) rfl (blkOk_by (N := n_level_after) (sc := defScope (topS 47)) (by decide +kernel))
        (fun _ _ _ _ _ => pg_tup rfl (pgs_cons (pg_name nd rfl (.inl rfl)) (pgs_cons (pg_name nd rfl (.inl rfl)) pgs_nil))) (by rw [← enumD_map]; exact di_enumT (dv 4 rfl rfl) T.f_enumerate) nd (by rw [List.length_zipIdx]; omega) (fun z hz => ⟨_, dg_tup2, fun _ _ _ _ _ => ?_, fun hp _ _ _ _ _ => ?_⟩) ?_
      · obtain ⟨c, i⟩ := z
        cases c with
        | none => exact dts_one (Dt.is (Dw.t (dw_and (y := false) (dt_cmp (dr_notN (nr_eC _)) (dv 9 rfl rfl) de_non) fun z => nomatch z)) rfl)
        | some c => exact dts_one (Dt.is (Dw.t (dw_and (dt_cmp (dr_notN (nr_eC _)) (dv 9 rfl rfl) de_non) fun _ => dw_and1 (dt_cmp dr_le (de_ix (dx_t rfl) (dv 9 rfl rfl) de_int) (dv 6 rfl rfl)))) rfl)
      · obtain ⟨c, i⟩ := z
        cases c with
        | none => cases hp
        | some c => exact de_tup (dd_cons (dv 8 rfl rfl) (dd_cons (de_ix (dx_t rfl) (dv 9 rfl rfl) de_int) dd_nil))
      have hb : ((looked.zipIdx.filter fun z => isBelow l z.1).map fun z => eP ((z.2 : Nat), valC z.1)) = (below l looked).map eP := by
        unfold below
        rw [List.map_map]
        rfl
      rw [hb]
      refine ds_if (k := decide (l ≤ ((below l looked).length : Int))) (Dt.is (dt_cmp dr_ge (de_callB dc_lenL T.f_len (da_cons (dv 5 rfl rfl) da_nil)) (dv 6 rfl rfl)) (by simp)) (fun h2 => ?_) fun h2 => ?_
      · have h2 := of_decide_eq_true h2
        refine ds_ret (de_tup (dd_cons de_non (dd_cons de_non (dd_cons (de_callTy dc_tupL T.f_tuple (da_cons (dv 5 rfl rfl) da_nil)) dd_nil)))) ?_
        simp only [after, hlk, if_neg hk, if_pos h2]
        rfl
      · have h2 := of_decide_eq_false h2
        refine ds_nil (ds_ret (de_tup (dd_cons de_non (dd_cons (de_tup (dd_cons (dv 6 rfl rfl) (dd_cons de_non dd_nil))) (dd_cons de_non dd_nil)))) ?_)
        simp only [after, hlk, if_neg hk, if_neg h2]
        rfl
end
end OP

set_option Elab.async false
set_option linter.all false
set_option maxRecDepth 100000
set_option maxHeartbeats 4000000
/-! OpD4: kinds, standings, steps -/
namespace OP
open PySem PySem.Spec PyProof.Rows L2
section
variable {P : Program} {w : World} {K : PySem.W.Frag} {mg : Str → Option Value} {base : Heap} {C : Addr}
def R_cell_of : List W → W → Prop := R_level_cell
theorem ok_cell_of (T : Tx K mg C) : Okf P w K mg base 2 "cell_of" (spD C K R_cell_of) := by
  refine okD T.a_cell_of sc_cell_of bn_cell_of (fun ws v ⟨_, _, h, _⟩ => h ▸ rfl) fun f cdv A outer s H E hr ws v h => ?_
  obtain ⟨rows, h, rfl, rfl⟩ := h
  exact ds_skip (dt_cmp dr_noMan (de_kind (dv 0 rfl rfl) T.cls T.na_kind) (de_man T.manners)) (ds_ret (de_ifT (dt_cmp dr_eqS (de_kind (dv 0 rfl rfl) T.cls T.na_kind) (de_gstr T.s_LEVELS)) (de_cal (ok_level_cell T) hr (da_cons (dv 0 rfl rfl) (da_cons (dv 1 rfl rfl) da_nil)) ⟨rows, h, rfl, rfl⟩)) rfl)
def R_state_of : List W → W → Prop := R_level_state
theorem ok_state_of (T : Tx K mg C) : Okf P w K mg base 2 "state_of" (spD C K R_state_of) := by
  refine okD T.a_state_of sc_state_of bn_state_of (fun ws v ⟨_, _, h, _⟩ => h ▸ rfl) fun f cdv A outer s H E hr ws v h => ?_
  obtain ⟨rows, h, rfl, rfl⟩ := h
  exact ds_skip (dt_cmp dr_noMan (de_kind (dv 0 rfl rfl) T.cls T.na_kind) (de_man T.manners)) (ds_ret (de_ifT (dt_cmp dr_eqS (de_kind (dv 0 rfl rfl) T.cls T.na_kind) (de_gstr T.s_LEVELS)) (de_cal (ok_level_state T) hr (da_cons (dv 0 rfl rfl) (da_cons (dv 1 rfl rfl) da_nil)) ⟨rows, h, rfl, rfl⟩)) rfl)
def R_next_of : List W → W → Prop := R_level_next
theorem ok_next_of (T : Tx K mg C) : Okf P w K mg base 2 "next_of" (spD C K R_next_of) := by
  refine okD T.a_next_of sc_next_of bn_next_of (fun ws v ⟨_, _, _, _, h, _⟩ => h ▸ rfl) fun f cdv A outer s H E hr ws v h => ?_
  obtain ⟨rows, h, l, o, rfl, rfl⟩ := h
  exact ds_skip (dt_cmp dr_noMan (de_kind (dv 0 rfl rfl) T.cls T.na_kind) (de_man T.manners)) (ds_ret (de_ifT (dt_cmp dr_eqS (de_kind (dv 0 rfl rfl) T.cls T.na_kind) (de_gstr T.s_LEVELS)) (de_cal (ok_level_next T) hr (da_cons (dv 0 rfl rfl) (da_cons (dv 1 rfl rfl) (da_cons (dv 2 rfl rfl) da_nil))) ⟨rows, h, l, o, rfl, rfl⟩)) rfl)
def R_after_of : List W → W → Prop := R_level_after
theorem ok_after_of (T : Tx K mg C) : Okf P w K mg base 2 "after_of" (spD C K R_after_of) := by
  refine okD T.a_after_of sc_after_of bn_after_of (fun ws v ⟨_, _, _, _, h, _⟩ => h ▸ rfl) fun f cdv A outer s H E hr ws v h => ?_
  obtain ⟨rows, h, cells, st, rfl, hh, hz, hn, rfl⟩ := h
  exact ds_skip (dt_cmp dr_noMan (de_kind (dv 0 rfl rfl) T.cls T.na_kind) (de_man T.manners)) (ds_ret (de_ifT (dt_cmp dr_eqS (de_kind (dv 0 rfl rfl) T.cls T.na_kind) (de_gstr T.s_LEVELS)) (de_cal (ok_level_after T) hr (da_cons (dv 0 rfl rfl) (da_cons (dv 1 rfl rfl) (da_cons (dv 2 rfl rfl) (da_cons (dv 3 rfl rfl) da_nil)))) ⟨rows, h, cells, st, rfl, hh, hz, hn, rfl⟩)) rfl)
/-! ### standings -/
def R_begun : List W → W → Prop := fun ws v => ∃ rows : List Int, ws = [.d (.play rows)] ∧ 1 ≤ rows.length ∧ rows.length ≤ 5 ∧ v = .d (eSt (begin0 rows.length))
theorem eSt_begin (n : Nat) : eSt (begin0 n) = .tup [.tup (List.replicate n .non), .tup (List.replicate n (eS (some ((n : Int) + 1, none)))), .tup (List.replicate n (.tup []))] := by
  unfold eSt begin0
  simp only [List.map_replicate]
  rfl
theorem map_range_const {α : Type} (x : α) (n : Nat) : (List.range n).map (fun _ => x) = List.replicate n x := by
  rw [List.map_const', List.length_range]
theorem ok_begun (T : Tx K mg C) : Okf P w K mg base 3 "begun" (spD C K R_begun) := by
  refine okD T.a_begun sc_begun bn_begun (fun ws v ⟨_, h, _⟩ => h ▸ rfl) fun f cdv A outer s H E hr ws v h => ?_
  obtain ⟨rows, rfl, h1, h5, rfl⟩ := h
  have nd := sc_begun.nd
  refine ds_set (i := 1) (de_of_l (dl_listRange (n := rows.length) (De.is (de_callB dc_lenT T.f_len (da_cons (de_rows (dv 0 rfl rfl) T.cls T.na_rows) da_nil)) (by simp)) (by omega) T.f_list T.f_range)) ?_ nd
  refine ds_set (i := 2) (De.is (w' := .d (.tup (List.replicate rows.length .non))) (de_callTy dc_tupL T.f_tuple (da_cons (de_of_l (dl_lcN (t := false) (own := [("hand", 3)]) (g := gName 3) (xs := List.range rows.length) (enc := fun i => .d (nI i)) (fun _ => D.non) (blkOk_by (N := n_begun) (sc := defScope (topS 76)) (by decide +kernel)) (fun _ _ _ _ _ => pg_name nd rfl (.inl rfl)) ?_ nd (by simp; omega) fun i hi => ⟨_, dg_name, fun _ _ _ _ _ => de_cal (ok_cell_of T) hr (da_cons (dv 0 rfl rfl) (da_cons (dv 3 rfl rfl) da_nil)) ⟨rows, i, rfl, rfl⟩⟩)) da_nil)) (by rw [map_range_const])) ?_ nd
  · have e : (List.range rows.length).map (fun i => W.d (nI i)) = ((List.range rows.length).map nI).map W.d := by rw [List.map_map]; rfl
    rw [e]
    exact di_list (dv 1 rfl rfl)
  · refine ds_ret (w := .d (eSt (begin0 rows.length))) (De.is (de_tup (dd_cons (dv 2 rfl rfl) (dd_cons (d := .tup (List.replicate rows.length (eS (some ((rows.length : Int) + 1, none))))) (De.is (de_callTy dc_tupL T.f_tuple (da_cons (de_of_l (dl_lcN (t := false) (own := [("hand", 3)]) (g := gName 3) (xs := List.range rows.length) (enc := fun i => .d (nI i)) (fun _ => eS (some ((rows.length : Int) + 1, none))) (blkOk_by (N := n_begun) (sc := defScope (topS 76)) (by decide +kernel)) (fun _ _ _ _ _ => pg_name nd rfl (.inl rfl)) ?_ nd (by simp; omega) fun i hi => ⟨_, dg_name, fun _ _ _ _ _ => de_cal (ok_state_of T) hr (da_cons (dv 0 rfl rfl) (da_cons (dv 3 rfl rfl) da_nil)) ⟨rows, i, rfl, rfl⟩⟩)) da_nil)) (by rw [map_range_const]))
        (dd_cons (de_bin (dr_repT h1 (by omega)) (de_tup (dd_cons (de_tup dd_nil) dd_nil)) (De.is (de_callB dc_lenL T.f_len (da_cons (dv 1 rfl rfl) da_nil)) (by simp))) dd_nil)))) (by rw [eSt_begin])) rfl
    have e : (List.range rows.length).map (fun i => W.d (nI i)) = ((List.range rows.length).map nI).map W.d := by rw [List.map_map]; rfl
    rw [e]
    exact di_list (dv 1 rfl rfl)
def R_first_standing : List W → W → Prop := R_begun
theorem ok_first_standing (T : Tx K mg C) : Okf P w K mg base 4 "first_standing" (spD C K R_first_standing) := by
  refine okD T.a_first_standing sc_first_standing bn_first_standing (fun ws v ⟨_, h, _⟩ => h ▸ rfl) fun f cdv A outer s H E hr ws v h => ?_
  obtain ⟨rows, rfl, h1, h5, rfl⟩ := h
  exact ds_ret (de_cal (ok_begun T) hr (da_cons (dv 0 rfl rfl) da_nil) ⟨rows, rfl, h1, h5, rfl⟩) rfl
def R_movers : List W → W → Prop := fun ws v => ∃ st : St, ws = [.d (eSt st)] ∧ st.states.length ≤ 1000 ∧ v = .d (.tup ((left st).map nI))
theorem ok_movers (T : Tx K mg C) : Okf P w K mg base 1 "movers" (spD C K R_movers) := by
  refine okD T.a_movers sc_movers bn_movers (fun ws v ⟨_, h, _⟩ => h ▸ rfl) fun f cdv A outer s H E hr ws v h => ?_
  obtain ⟨st, rfl, hz, rfl⟩ := h
  have nd := sc_movers.nd
  refine ds_ret (De.is (de_callTy dc_tupL T.f_tuple (da_cons (de_of_l (dl_lcA (own := [("hand", 1), ("state", 2)]) (g := gTup K 2 (gCons (gName 1) (gCons (gName 2) gNil))) (xs := st.states.zipIdx) (enc := fun z => .d (.tup [.int (z.2 : Nat), eS z.1])) (fun z => z.1.isSome) (fun z => nI z.2) (blkOk_by (N := n_movers) (sc := defScope (topS 78)) (by decide +kernel))
    (fun _ _ _ _ _ => pg_tup rfl (pgs_cons (pg_name nd rfl (.inl rfl)) (pgs_cons (pg_name nd rfl (.inl rfl)) pgs_nil))) (by rw [← enumD_map]; exact di_enumT (de_ix (dx_t rfl) (dv 0 rfl rfl) de_int) T.f_enumerate) nd (by rw [List.length_zipIdx]; omega)
    fun z hz => ⟨_, dg_tup2, fun _ _ _ _ _ => dts_one (Dt.is (dt_cmp (dr_notN (nr_eS _)) (dv 2 rfl rfl) de_non) (by rw [isNon_eS]; cases z.1 <;> rfl)), fun _ _ _ _ _ _ => dv 1 rfl rfl⟩)) da_nil)) ?_) rfl
  unfold left
  rw [List.map_map]
  rfl
def R_can_step : List W → W → Prop := fun ws v => ∃ (rows : List Int) (st : St), ws = [.d (.play rows), .d (eSt st)] ∧ st.states.length ≤ 1000 ∧ v = .d (.tup ((left st).map nI))
theorem ok_can_step (T : Tx K mg C) : Okf P w K mg base 2 "can_step" (spD C K R_can_step) := by
  refine okD T.a_can_step sc_can_step bn_can_step (fun ws v ⟨_, _, h, _⟩ => h ▸ rfl) fun f cdv A outer s H E hr ws v h => ?_
  obtain ⟨rows, st, rfl, hz, rfl⟩ := h
  exact ds_ret (de_cal (ok_movers T) hr (da_cons (dv 1 rfl rfl) da_nil) ⟨st, rfl, hz, rfl⟩) rfl
/-! ### steps -/
theorem eqv_next {X : Cx} (hu : X.A.units + 64 < cLine) (o : Option (List Cell)) : DR C X (compareOp .Eq) (.d (nextD o)) (.d (.tup [.str "put"])) (.d (.bl o.isNone)) := by
  cases o with
  | none => exact dr_eqP hu shaped_put shaped_put eqv_put
  | some now => exact dr_eqQ hu (shaped_look _) shaped_put
theorem units_of {k : Nat} {A : Around} (hr : Room k A) : A.units + 64 < cLine := by
  have := hr.un
  omega
def R_after_step : List W → W → Prop := fun ws v => ∃ rows st h x, ws = [.d (.play rows), .d (eSt st), .d (nI h)] ∧ Wf rows st ∧ st.states[h]? = some (some x) ∧ v = .d (eSt (moved rows st h))
theorem ok_after_step (T : Tx K mg C) : Okf P w K mg base 3 "after_step" (spD C K R_after_step) := by
  refine okD T.a_after_step sc_after_step bn_after_step (fun ws v ⟨_, _, _, _, h, _⟩ => h ▸ rfl) fun f cdv A outer s H E hr ws v h => ?_
  obtain ⟨rows, st, h, x, rfl, Wt, hx, rfl⟩ := h
  have nd := sc_after_step.nd
  have hls : h < st.states.length := (List.getElem?_eq_some_iff.mp hx).1
  have hl : h < rows.length := Wt.ls ▸ hls
  have h5 := Wt.n5
  have lc := Wt.lc
  have ls := Wt.ls
  have lt := Wt.lt
  have hnow : ∀ now, x.2 = some now → now.length < st.cells.length := fun now e => by
    rw [lc]
    exact Wt.now h x.1 now (by rw [hx, ← e])
  have ht := Wt.tol h x hx
  have em : moved rows st h = movedBy st h x.2.isNone (after rows h st.cells x) := by
    unfold moved
    rw [hx]
  rw [em]
  generalize ha : after rows h st.cells x = a
  have hst : atI (st.states.map eS) (((h : Nat)) : Int) = some (eS (some x)) := atI_map eS hx
  have htd : atI (st.told.map eT) (((h : Nat)) : Int) = some (eT []) := atI_map eT ht
  refine ds_un3 (i := 3) (j := 4) (l := 5) (dv 1 rfl rfl) ?_ nd
  refine ds_un3 (i := 6) (j := 7) (l := 8) (d1 := eC a.1) (d2 := eS a.2.1) (d3 := eO a.2.2) (de_cal (ok_after_of T) hr (da_cons (dv 0 rfl rfl) (da_cons (dv 2 rfl rfl) (da_cons (dv 3 rfl rfl) (da_cons (de_ix (dx_t hst) (dv 4 rfl rfl) (dv 2 rfl rfl)) da_nil)))) ⟨rows, h, st.cells, x, rfl, hl, by omega, hnow, by rw [ha]; rfl⟩) ?_ nd
  refine ds_if (k := x.2.isNone) (dt_cmp (eqv_next (units_of hr) x.2) (de_cal (ok_next_of T) hr (da_cons (dv 0 rfl rfl) (da_cons (dv 2 rfl rfl) (da_cons (de_ix (dx_t hst) (dv 4 rfl rfl) (dv 2 rfl rfl)) da_nil))) ⟨rows, h, x.1, x.2, rfl, rfl⟩) (de_tup (dd_cons (de_gstr T.s_PUT) dd_nil))) (fun hk => ?_) fun hk => ?_
  · refine ds_set (i := 3) (de_cal (ok_replaced T) hr (da_cons (dv 3 rfl rfl) (da_cons (dv 2 rfl rfl) (da_cons (dv 6 rfl rfl) da_nil))) ⟨_, h, _, rfl, by rw [List.length_map]; omega, by rw [List.length_map]; omega, rfl⟩) (ds_nil ?_) nd
    refine ds_if (k := a.2.2.isSome) (Dt.is (dt_cmp (dr_notN (nr_eO _)) (dv 8 rfl rfl) de_non) (by rw [isNon_eO]; cases a.2.2 <;> rfl)) (fun h2 => ?_) fun h2 => ?_
    · obtain ⟨c1, s1, it⟩ := a
      cases it with
      | none => cases h2
      | some it =>
        refine ds_set (i := 5) (de_cal (ok_replaced T) hr (da_cons (dv 5 rfl rfl) (da_cons (dv 2 rfl rfl) (da_cons (de_bin (dr_catT (by simp)) (de_ix (dx_t htd) (dv 5 rfl rfl) (dv 2 rfl rfl)) (de_tup (dd_cons (dv 8 rfl rfl) dd_nil))) da_nil))) ⟨_, h, _, rfl, by rw [List.length_map]; omega, by rw [List.length_map]; omega, rfl⟩) (ds_nil ?_) nd
        refine ds_ret (de_tup (dd_cons (dv 3 rfl rfl) (dd_cons (de_cal (ok_replaced T) hr (da_cons (dv 4 rfl rfl) (da_cons (dv 2 rfl rfl) (da_cons (dv 7 rfl rfl) da_nil))) ⟨_, h, _, rfl, by rw [List.length_map]; omega, by rw [List.length_map]; omega, rfl⟩) (dd_cons (dv 5 rfl rfl) dd_nil)))) ?_
        unfold movedBy eSt
        rw [hk]
        simp only [List.map_set, if_true, Bool.false_eq_true, if_false, List.getD_eq_getElem?_getD, ht]
        rfl
    · obtain ⟨c1, s1, it⟩ := a
      cases it with
      | some it => cases h2
      | none =>
        refine ds_nil (ds_ret (de_tup (dd_cons (dv 3 rfl rfl) (dd_cons (de_cal (ok_replaced T) hr (da_cons (dv 4 rfl rfl) (da_cons (dv 2 rfl rfl) (da_cons (dv 7 rfl rfl) da_nil))) ⟨_, h, _, rfl, by rw [List.length_map]; omega, by rw [List.length_map]; omega, rfl⟩) (dd_cons (dv 5 rfl rfl) dd_nil)))) ?_)
        unfold movedBy eSt
        rw [hk]
        simp only [List.map_set, if_true, Bool.false_eq_true, if_false]
  · refine ds_nil ?_
    refine ds_if (k := a.2.2.isSome) (Dt.is (dt_cmp (dr_notN (nr_eO _)) (dv 8 rfl rfl) de_non) (by rw [isNon_eO]; cases a.2.2 <;> rfl)) (fun h2 => ?_) fun h2 => ?_
    · obtain ⟨c1, s1, it⟩ := a
      cases it with
      | none => cases h2
      | some it =>
        refine ds_set (i := 5) (de_cal (ok_replaced T) hr (da_cons (dv 5 rfl rfl) (da_cons (dv 2 rfl rfl) (da_cons (de_bin (dr_catT (by simp)) (de_ix (dx_t htd) (dv 5 rfl rfl) (dv 2 rfl rfl)) (de_tup (dd_cons (dv 8 rfl rfl) dd_nil))) da_nil))) ⟨_, h, _, rfl, by rw [List.length_map]; omega, by rw [List.length_map]; omega, rfl⟩) (ds_nil ?_) nd
        refine ds_ret (de_tup (dd_cons (dv 3 rfl rfl) (dd_cons (de_cal (ok_replaced T) hr (da_cons (dv 4 rfl rfl) (da_cons (dv 2 rfl rfl) (da_cons (dv 7 rfl rfl) da_nil))) ⟨_, h, _, rfl, by rw [List.length_map]; omega, by rw [List.length_map]; omega, rfl⟩) (dd_cons (dv 5 rfl rfl) dd_nil)))) ?_
        unfold movedBy eSt
        rw [hk]
        simp only [List.map_set, if_true, Bool.false_eq_true, if_false, List.getD_eq_getElem?_getD, ht]
        rfl
    · obtain ⟨c1, s1, it⟩ := a
      cases it with
      | some it => cases h2
      | none =>
        refine ds_nil (ds_ret (de_tup (dd_cons (dv 3 rfl rfl) (dd_cons (de_cal (ok_replaced T) hr (da_cons (dv 4 rfl rfl) (da_cons (dv 2 rfl rfl) (da_cons (dv 7 rfl rfl) da_nil))) ⟨_, h, _, rfl, by rw [List.length_map]; omega, by rw [List.length_map]; omega, rfl⟩) (dd_cons (dv 5 rfl rfl) dd_nil)))) ?_)
        unfold movedBy eSt
        rw [hk]
        simp only [List.map_set, if_true, Bool.false_eq_true, if_false]
end
end OP

set_option Elab.async false
set_option linter.all false
set_option maxRecDepth 100000
set_option maxHeartbeats 4000000
/-! OpD5: check_step, step, next_step, standings_of, run, run_out -/
namespace OP
open PySem PySem.Spec PyProof.Rows L2
theorem wipeD_sub {δ : Dn} : ∀ {js : List Nat} {k : Nat} {w : W}, (wipeD δ js)[k]? = some (some w) → δ[k]? = some (some w)
  | [], _, _, h => h
  | j :: js, k, w, h => by
    have h : ((wipeD δ js).set j none)[k]? = some (some w) := h
    by_cases e : j = k
    · subst e
      rw [List.getElem?_set] at h
      simp at h
    · rw [List.getElem?_set_ne e] at h
      exact wipeD_sub h
theorem wipeD_length {δ : Dn} : ∀ js : List Nat, (wipeD δ js).length = δ.length
  | [] => rfl
  | j :: js => by
    show ((wipeD δ js).set j none).length = _
    rw [List.length_set]
    exact wipeD_length js
section
variable {C : Addr} {X : Cx} {o : Option Nat} {δ : Dn} {rest : List Stmt} {O : Ot} {e : Expr} {pos p q p2 p3 : Pos}
/-- an expression as a statement -/
theorem ds_do {w : W} (he : De C X δ e w) (k : Ds C X o δ rest O) (hs : swapsWith e none pos.line X.env = pure false := by rfl) : Ds C X o δ (.Expr e pos :: rest) O := fun H0 σ H D E kn kr => by
  refine wSs_cons ⟨_, ps_expr pe_w hs, he σ H _ E.en fun v H1 s1 r1 => ?_⟩
  exact k H0 σ H1 D (E.mono s1) kn kr
theorem de_neg {i : Int} (h : De C X δ e (.d (.int i))) : De C X δ (.UnaryOp .USub e pos) (.d (.int (-i))) := fun σ H Q E q => by
  refine ⟨_, pe_un un_neg pe_w, h σ H _ E fun v H1 s1 r1 => ?_⟩
  cases r1
  exact ⟨i, rfl, q _ H1 s1 (.int _)⟩
/-- from here on the list in slot i grows; the slots js are forgotten -/
theorem ds_ownW {i : Nat} {x : Str} {xs : List D} (js : List Nat) (he : Dl C X δ e xs) (k : Ds C X (some i) ((wipeD δ js).set i (some (.l xs))) rest O) (hd : ∀ (j : Nat) (w : W), j ≠ i → (wipeD δ js)[j]? = some (some w) → ∃ x, w = .d x) (hN : X.N.Nodup) (hlt : i < δ.length) (hi : X.N[i]? = some x := by rfl) (hx : Loc X.env.scope x := by first | exact Or.inl rfl | exact Or.inr rfl)
    (hs : swapsWith e (some (.Name x p)) pos.line X.env = pure false := by rfl) (hf : X.fn x = true ∨ X.env.scope.names.lookup x = some .local := by first | exact .inl rfl | exact .inr rfl) : Ds C X none δ (.Assign [.Name x p] e pos :: rest) O := fun H0 σ H D E kn kr => by
  refine wSs_cons ⟨_, ps_set hN hi hx pe_w hs hf, he σ H _ E.en fun l vs H1 hl s1 hl1 r1 => ?_⟩
  have E0 : En X.K C H1 σ (wipeD δ js) := (E.en.mono s1).weak (wipeD_length js) fun i w h => wipeD_sub h
  have E1 := E0.set (i := i) (v := .ref l) (w := .l xs) ⟨l, vs, rfl, SqL.of hl1, r1⟩
  refine k H0 _ H1 D ⟨E1, E.same.trans s1, l, vs, xs, ?_, E.same.free hl, hl1, ?_, r1, fun j w hj ew => ?_⟩ (fun δ' σ' H' z E' => kn δ' σ' H' z ⟨E'.en, E'.same, trivial⟩) kr
  · exact List.getElem?_set_self (by rw [E.en.1]; exact hlt)
  · exact List.getElem?_set_self (by rw [wipeD_length]; exact hlt)
  · rw [List.getElem?_set_ne (Ne.symm hj)] at ew
    exact hd j w hj ew
/-- x = a new list; for a, b in enumerate(y): .. x grows ..; y a list -/
theorem ds_ownFor {i j : Nat} {x y : Str} {xs ys : List D} {tg : List Expr} {kk : Nat} {pt py pos2 pos3 : Pos} {body : List Stmt} {g : TG} (he : Dl C X δ e xs) (hj : δ[j]? = some (some (.l ys))) (hij : i ≠ j)
    (hd : ∀ (k : Nat) (w : W), k ≠ i → (δ.set j none)[k]? = some (some w) → ∃ x, w = .d x) (hg' : PG X (.Tuple tg kk pt) g) (I : Nat → Dn → Prop) (h0 : I 0 ((δ.set j none).set i (some (.l xs))))
    (step : ∀ (t : Nat) (w : W) (δ' : Dn), (enumD ys)[t]? = some w → I t δ' → ∃ δ'', DgM X.K C (some i) g w δ' δ'' ∧ Ds C X (some i) δ'' body ⟨I (t + 1), O.rt⟩) (done : ∀ δ', I ys.length δ' → Ds C X (some i) δ' rest O) (hm : X.mg "enumerate" = none)
    (hN : X.N.Nodup) (hlt : i < δ.length) (hi : X.N[i]? = some x := by rfl) (hjN : X.N[j]? = some y := by rfl) (hx : Loc X.env.scope x := by first | exact Or.inl rfl | exact Or.inr rfl) (hv : Vis X.env.scope y := by first | exact Or.inl rfl | exact Or.inr (Or.inl rfl) | exact Or.inr (Or.inr rfl))
    (hs : swapsWith e (some (.Name x p)) pos.line X.env = pure false := by rfl) (hf : X.fn x = true ∨ X.env.scope.names.lookup x = some .local := by first | exact .inl rfl | exact .inr rfl) (hg : Gl X "enumerate" := by rfl)
    (hyd : (y == ("__debug__" : Str)) = false := by decide) (hycd : (y == ("__classdict__" : Str)) = false := by decide)
    (hp : PassesOwn (model X.prog X.w) X.A X.env X.xe := by exact PassesOwn.never) (hc : X.calm = true := by rfl) (hs1 : starEach [.Name y py] X.env = (false, eval (.Name y py) X.env) :: starEach [] X.env := by rfl) (hs0 : starEach [.Name y py] X.env = [(false, eval (.Name y py) X.env)] := by rfl)
    (hs2 : ∀ x, foldedSetIterable (.Call (.Name "enumerate" q) [.Name y py] [] pos3) X.env x = pure x := by intro _; rfl) :
    Ds C X none δ (.Assign [.Name x p] e pos :: .For (.Tuple tg kk pt) (.Call (.Name "enumerate" q) [.Name y py] [] pos3) body [] pos2 :: rest) O := fun H0 σ H D E kn kr => by
  obtain ⟨v, hv1, b, us, rfl, hq, ru⟩ := E.en.2 j _ hj
  refine wSs_cons ⟨_, ps_set hN hi hx pe_w hs hf, he σ H _ E.en fun l vs H1 hl s1 hl1 r1 => ?_⟩
  refine wSs_cons ⟨_, ps_for hp hc (pi_enum hg hm (pa_cons (pe_var hjN hv hyd hycd) pa_nil hs1) hs0) hg' pss_w hs2, .ref b, ?_, b, us, rfl, s1.seq hq, ?_⟩
  · rw [List.getElem?_set_ne hij]
    exact hv1
  have E0 : En X.K C H1 σ (δ.set j none) := (E.en.mono s1).weak (by rw [List.length_set]) fun k w h => by
    by_cases e : j = k
    · subst e
      rw [List.getElem?_set] at h
      simp at h
    · rwa [List.getElem?_set_ne e] at h
  have E1 : Em X.K C H (some i) H1 (σ.set i (some (.ref l))) ((δ.set j none).set i (some (.l xs))) := by
    refine ⟨E0.set (i := i) (v := .ref l) (w := .l xs) ⟨l, vs, rfl, SqL.of hl1, r1⟩, s1, l, vs, xs, ?_, hl, hl1, ?_, r1, fun k w hk ew => ?_⟩
    · exact List.getElem?_set_self (by rw [E.en.1]; exact hlt)
    · exact List.getElem?_set_self (by rw [List.length_set]; exact hlt)
    · rw [List.getElem?_set_ne (Ne.symm hk)] at ew
      exact hd k w hk ew
  have lu := ru.length
  refine for_it (walk_enum (K := X.K) (a := b) (xs := us)) (fun t σ Hc => ∃ δ', I t δ' ∧ Em X.K C H (some i) Hc σ δ') ⟨_, h0, E1⟩ (fun t σ Hc _ ⟨δ', _, k⟩ => k.same.seq hq) (fun t z σ Hc H' ht w y => ?_) fun σ Hc ⟨δ', iw, E'⟩ => ?_
  · obtain ⟨δ', iw, Ec⟩ := w
    obtain ⟨T, x1, x2, rfl, hn, rfl, f1, f2⟩ := y
    obtain rfl := Option.some.inj f1
    obtain ⟨d, hd2, rd⟩ := ru.at f2
    have sy := same_new (o := .tup [.int (t : Nat), x2]) hn
    obtain ⟨δ'', dg, db⟩ := step t _ δ' (enumD_at hd2) iw
    refine dg _ H σ _ _ (Rp.tup (SqT.of upd_same) (.cons (.int _) (.cons (rd.mono (.of (Ec.same.trans sy))) .nil))) (Ec.mono sy) fun σ2 E2 => ?_
    obtain ⟨H2, Er, back, ba⟩ := E2.rebase
    refine db H2 σ2 _ _ Er (fun d σ3 H3 z E3 => ?_) fun w v H3 z s r => kr w v H3 z (E.same.trans (ba _ s)) r
    obtain ⟨E4, k4⟩ := back _ _ _ E3
    exact ⟨d, z, E4⟩
  · rw [lu] at iw
    exact done δ' iw H σ Hc D E' (fun δ' σ' H' z E' => kn δ' σ' H' z ⟨E'.en, E.same.trans E'.same, trivial⟩) fun w v H' z s r => kr w v H' z (E.same.trans s) r
end
/-! ### runs in plain Lean -/
def runs (rows : List Int) (s : St) (hs : List Nat) : St := hs.foldl (moved rows) s
def Okw (rows : List Int) : St → List Nat → Prop
  | _, [] => True
  | s, h :: r => (∃ x, s.states[h]? = some (some x)) ∧ Okw rows (moved rows s h) r
def stands (rows : List Int) (s : St) (hs : List Nat) (n : Nat) : List D := (List.range n).map fun k => eSt (runs rows s (hs.take k))
theorem okw_at {rows : List Int} : ∀ {hs : List Nat} {s : St} {i h : Nat}, Okw rows s hs → hs[i]? = some h → ∃ x, (runs rows s (hs.take i)).states[h]? = some (some x)
  | [], _, _, _, _, e => by simp at e
  | a :: r, s, 0, h, o, e => by
    cases e
    exact o.1
  | a :: r, s, i + 1, h, o, e => by
    have z := okw_at (hs := r) (s := moved rows s a) (i := i) o.2 e
    exact z
theorem runs_take {rows : List Int} {s : St} {hs : List Nat} {i h : Nat} (e : hs[i]? = some h) : runs rows s (hs.take (i + 1)) = moved rows (runs rows s (hs.take i)) h := by
  rw [List.take_add_one, e]
  unfold runs
  rw [List.foldl_append]
  rfl
theorem wf_runs {rows : List Int} : ∀ {hs : List Nat} {s : St}, Wf rows s → Wf rows (runs rows s hs)
  | [], _, h => h
  | a :: r, s, h => wf_runs (hs := r) (wf_moved h a)
theorem runs_app {rows : List Int} {s : St} {a b : List Nat} : runs rows s (a ++ b) = runs rows (runs rows s a) b := List.foldl_append
theorem okw_app {rows : List Int} : ∀ {a b : List Nat} {s : St}, Okw rows s (a ++ b) ↔ Okw rows s a ∧ Okw rows (runs rows s a) b
  | [], b, s => ⟨fun h => ⟨trivial, h⟩, fun h => h.2⟩
  | x :: a, b, s => ⟨fun h => ⟨⟨h.1, (okw_app.mp h.2).1⟩, (okw_app.mp h.2).2⟩, fun h => ⟨h.1.1, okw_app.mpr ⟨h.1.2, h.2⟩⟩⟩
section
variable {P : Program} {w : World} {K : PySem.W.Frag} {mg : Str → Option Value} {base : Heap} {C : Addr}
def R_check_step : List W → W → Prop := fun ws v => ∃ rows st h x, ws = [.d (.play rows), .d (eSt st), .d (nI h)] ∧ Wf rows st ∧ st.states[h]? = some (some x) ∧ v = .d .non
theorem hand_lt {rows : List Int} {st : St} {h : Nat} {x} (W : Wf rows st) (hx : st.states[h]? = some (some x)) : h < rows.length := W.ls ▸ (List.getElem?_eq_some_iff.mp hx).1
theorem ok_check_step (T : Tx K mg C) : Okf P w K mg base 6 "check_step" (spD C K R_check_step) := by
  refine okD T.a_check_step sc_check_step bn_check_step (fun ws v ⟨_, _, _, _, h, _⟩ => h ▸ rfl) fun f cdv A outer s H E hr ws v h => ?_
  obtain ⟨rows, st, h, x, rfl, Wt, hx, rfl⟩ := h
  have hst : atI (st.states.map eS) (((h : Nat)) : Int) = some (eS (some x)) := atI_map eS hx
  refine ds_do (de_cal (ok_check_hand T) hr (da_cons (dv 0 rfl rfl) (da_cons (dv 2 rfl rfl) da_nil)) ⟨rows, h, rfl, hand_lt Wt hx, rfl⟩) ?_
  exact ds_skip (dt_cmp (dr_isN (nr_eS _)) (de_ix (dx_t hst) (de_ix (dx_t rfl) (dv 1 rfl rfl) de_int) (dv 2 rfl rfl)) de_non) (ds_nil rfl)
def R_step : List W → W → Prop := R_after_step
theorem ok_step (T : Tx K mg C) : Okf P w K mg base 7 "step" (spD C K R_step) := by
  refine okD T.a_step sc_step bn_step (fun ws v ⟨_, _, _, _, h, _⟩ => h ▸ rfl) fun f cdv A outer s H E hr ws v h => ?_
  obtain ⟨rows, st, h, x, rfl, Wt, hx, rfl⟩ := h
  refine ds_do (de_cal (ok_check_step T) hr (da_cons (dv 0 rfl rfl) (da_cons (dv 1 rfl rfl) (da_cons (dv 2 rfl rfl) da_nil))) ⟨rows, st, h, x, rfl, Wt, hx, rfl⟩) ?_
  exact ds_ret (de_cal (ok_after_step T) hr (da_cons (dv 0 rfl rfl) (da_cons (dv 1 rfl rfl) (da_cons (dv 2 rfl rfl) da_nil))) ⟨rows, st, h, x, rfl, Wt, hx, rfl⟩) rfl
def R_next_step : List W → W → Prop := fun ws v => ∃ rows st h x, ws = [.d (.play rows), .d (eSt st), .d (nI h)] ∧ Wf rows st ∧ st.states[h]? = some (some x) ∧ v = .d (nextD x.2)
theorem ok_next_step (T : Tx K mg C) : Okf P w K mg base 7 "next_step" (spD C K R_next_step) := by
  refine okD T.a_next_step sc_next_step bn_next_step (fun ws v ⟨_, _, _, _, h, _⟩ => h ▸ rfl) fun f cdv A outer s H E hr ws v h => ?_
  obtain ⟨rows, st, h, x, rfl, Wt, hx, rfl⟩ := h
  have hst : atI (st.states.map eS) (((h : Nat)) : Int) = some (eS (some x)) := atI_map eS hx
  refine ds_do (de_cal (ok_check_step T) hr (da_cons (dv 0 rfl rfl) (da_cons (dv 1 rfl rfl) (da_cons (dv 2 rfl rfl) da_nil))) ⟨rows, st, h, x, rfl, Wt, hx, rfl⟩) ?_
  exact ds_ret (de_cal (ok_next_of T) hr (da_cons (dv 0 rfl rfl) (da_cons (dv 2 rfl rfl) (da_cons (de_ix (dx_t hst) (de_ix (dx_t rfl) (dv 1 rfl rfl) de_int) (dv 2 rfl rfl)) da_nil))) ⟨rows, h, x.1, x.2, rfl, rfl⟩) rfl
def wvW (tl : Bool) (hs : List Nat) : W := if tl then .d (.tup (hs.map nI)) else .l (hs.map nI)
def R_standings_of : List W → W → Prop := fun ws v => ∃ rows hs tl, ws = [.d (.play rows), wvW tl hs] ∧ 1 ≤ rows.length ∧ rows.length ≤ 5 ∧ Okw rows (begin0 rows.length) hs ∧ hs.length ≤ 5000 ∧ v = .l (stands rows (begin0 rows.length) hs (hs.length + 1))
theorem stands_succ {rows : List Int} {s : St} {hs : List Nat} {n : Nat} : stands rows s hs (n + 1) = stands rows s hs n ++ [eSt (runs rows s (hs.take n))] := by
  unfold stands
  rw [List.range_succ, List.map_append]
  rfl
theorem stands_length {rows : List Int} {s : St} {hs : List Nat} {n : Nat} : (stands rows s hs n).length = n := by
  unfold stands
  rw [List.length_map, List.length_range]
theorem enumD_nI {hs : List Nat} {t : Nat} {w : W} (h : (enumD (hs.map nI))[t]? = some w) : ∃ k, hs[t]? = some k ∧ w = .d (.tup [.int (t : Nat), nI k]) := by
  rw [enumD_map, List.getElem?_map, List.getElem?_zipIdx] at h
  cases e : hs[t]? with
  | none =>
    rw [e] at h
    cases h
  | some k =>
    rw [e] at h
    simp only [Option.map_some, Option.some.injEq, Nat.zero_add] at h
    exact ⟨k, rfl, h.symm⟩
theorem ok_standings_of (T : Tx K mg C) : Okf P w K mg base 5 "standings_of" (spD C K R_standings_of) := by
  refine okD T.a_standings_of sc_standings_of bn_standings_of (fun ws v ⟨_, _, _, h, _⟩ => h ▸ rfl) fun f cdv A outer s H E hr ws v h => ?_
  obtain ⟨rows, hs, tl, rfl, h1, h5, hok, hz, rfl⟩ := h
  have nd := sc_standings_of.nd
  refine ds_skip (dt_not (dt_val (x := true) (de_cal (ok_is_listed T) hr (da_cons (dv 1 rfl rfl) da_nil) ⟨hs.map nI, by cases tl <;> simp [wvW], rfl⟩))) ?_
  have W0 := wf_begin (rows := rows) h5
  have step : ∀ (cc : Option W) (t : Nat) (w' : W) (δ' : Dn), (enumD (hs.map nI))[t]? = some w' → (∃ a b, δ' = [some (.d (.play rows)), cc, some (.l (stands rows (begin0 rows.length) hs (t + 1))), a, b]) →
      ∃ δ'', DgM K C (some 2) (gTup K 2 (gCons (gName 3) (gCons (gName 4) gNil))) w' δ' δ'' ∧ Ds C (bx P w K mg base n_standings_of "standings_of" (topS 84) f cdv A outer s H E) (some 2) δ'' (match (defBody (topS 84)).getD 2 (.Pass ⟨0, 0, 0, 0⟩) with | .For _ _ b _ _ => b | _ => []) ⟨fun δ' => ∃ a b, δ' = [some (.d (.play rows)), cc, some (.l (stands rows (begin0 rows.length) hs (t + 1 + 1))), a, b], fun v' => v' = .l (stands rows (begin0 rows.length) hs (hs.length + 1))⟩ := by
    intro cc t w' δ' hw ⟨a, b, hδ⟩
    subst hδ
    obtain ⟨k, hk, rfl⟩ := enumD_nI hw
    obtain ⟨x, hx⟩ := okw_at hok hk
    have Wt := wf_runs (hs := hs.take t) W0
    have ht : t < hs.length := (List.getElem?_eq_some_iff.mp hk).1
    have hls : atI (stands rows (begin0 rows.length) hs (t + 1)) (-1) = some (eSt (runs rows (begin0 rows.length) (hs.take t))) := by
      rw [stands_succ]
      exact atI_last _ _
    have hst : atI ((runs rows (begin0 rows.length) (hs.take t)).states.map eS) (((k : Nat)) : Int) = some (eS (some x)) := atI_map eS hx
    refine ⟨_, dgm_tup2, ?_⟩
    refine ds_skip (Dt.is (Dw.t (dw_or (dt_not (dt_val (x := true) (de_cal (ok_is_hand T) hr (da_cons (dv 0 rfl rfl) (da_cons (dv 4 rfl rfl) da_nil)) ⟨rows, k, rfl, hand_lt Wt hx, rfl⟩))) fun _ => dw_or1 (dt_cmp (dr_isN (nr_eS _)) (de_ix (dx_t hst) (de_ix (dx_t (d := .tup ((runs rows (begin0 rows.length) (hs.take t)).states.map eS)) rfl) (de_ix (dx_l hls) (dv 2 rfl rfl) (de_neg de_int)) de_int) (dv 4 rfl rfl)) de_non))) rfl) ?_
    refine ds_app (i := 2) (xs := stands rows (begin0 rows.length) hs (t + 1)) rfl (de_cal (ok_after_step T) hr (da_cons (dv 0 rfl rfl) (da_cons (de_ix (dx_l hls) (dv 2 rfl rfl) (de_neg de_int)) (da_cons (dv 4 rfl rfl) da_nil))) ⟨rows, _, k, x, rfl, Wt, hx, rfl⟩) (by rw [stands_length]; omega) (ds_nil ?_)
    refine ⟨some (.d (.int (t : Nat))), some (.d (nI k)), ?_⟩
    rw [stands_succ (n := t + 1), runs_take hk]
    rfl
  have h0 : stands rows (begin0 rows.length) hs 1 = [eSt (begin0 rows.length)] := by
    rw [stands_succ]
    rfl
  have eb : Dl C (bx P w K mg base n_standings_of "standings_of" (topS 84) f cdv A outer s H E) (startW n_standings_of [.d (.play rows), wvW tl hs]) (match (defBody (topS 84)).getD 1 (.Pass ⟨0, 0, 0, 0⟩) with | .Assign _ e _ => e | _ => .Constant .none 0 ⟨0, 0, 0, 0⟩) [eSt (begin0 rows.length)] :=
    dl_lst (dd_cons (de_cal (ok_begun T) hr (da_cons (dv 0 rfl rfl) da_nil) ⟨rows, rfl, h1, h5, rfl⟩) dd_nil)
  have pg : PG (bx P w K mg base n_standings_of "standings_of" (topS 84) f cdv A outer s H E) (match (defBody (topS 84)).getD 2 (.Pass ⟨0, 0, 0, 0⟩) with | .For t _ _ _ _ => t | _ => .Constant .none 0 ⟨0, 0, 0, 0⟩) (gTup K 2 (gCons (gName 3) (gCons (gName 4) gNil))) :=
    pg_tup rfl (pgs_cons (pg_name nd rfl (.inl rfl)) (pgs_cons (pg_name nd rfl (.inl rfl)) pgs_nil))
  cases tl with
  | true =>
    refine ds_own (i := 2) eb ?_ (fun j w' hj e => ?_) nd (by simp [startW])
    · refine ds_for (t := true) (ws := enumD (hs.map nI)) (di_enumT (dv 1 rfl rfl) T.f_enumerate) pg (fun t δ' => ∃ a b, δ' = [some (.d (.play rows)), some (.d (.tup (hs.map nI))), some (.l (stands rows (begin0 rows.length) hs (t + 1))), a, b]) ⟨none, none, by rw [h0]; rfl⟩ (fun t w' δ' hw hI => step _ t w' δ' hw hI) fun δ' hI => ?_
      obtain ⟨a, b, rfl⟩ := hI
      refine ds_ret (dv 2 rfl rfl) ?_
      rw [enumD_length, List.length_map]
    · match j, e with
      | 0, e => cases e; exact ⟨_, rfl⟩
      | 1, e => cases e; exact ⟨_, rfl⟩
      | 3, e => cases e
      | 4, e => cases e
      | n + 5, e => cases e
  | false =>
    refine ds_ownFor (i := 2) (j := 1) (ys := hs.map nI) eb rfl (by decide) (fun j w' hj e => ?_) pg (fun t δ' => ∃ a b, δ' = [some (.d (.play rows)), none, some (.l (stands rows (begin0 rows.length) hs (t + 1))), a, b]) ⟨none, none, by rw [h0]; rfl⟩ (fun t w' δ' hw hI => step _ t w' δ' hw hI) (fun δ' hI => ?_) T.f_enumerate nd (by simp [startW])
    · match j, e with
      | 0, e => cases e; exact ⟨_, rfl⟩
      | 1, e => cases e
      | 3, e => cases e
      | 4, e => cases e
      | n + 5, e => cases e
    · obtain ⟨a, b, rfl⟩ := hI
      refine ds_ret (dv 2 rfl rfl) ?_
      rw [List.length_map]
def R_run : List W → W → Prop := fun ws v => ∃ rows hs tl, ws = [.d (.play rows), wvW tl hs] ∧ 1 ≤ rows.length ∧ rows.length ≤ 5 ∧ Okw rows (begin0 rows.length) hs ∧ hs.length ≤ 5000 ∧ v = .d (eSt (runs rows (begin0 rows.length) hs))
theorem ok_run (T : Tx K mg C) : Okf P w K mg base 6 "run" (spD C K R_run) := by
  refine okD T.a_run sc_run bn_run (fun ws v ⟨_, _, _, h, _⟩ => h ▸ rfl) fun f cdv A outer s H E hr ws v h => ?_
  obtain ⟨rows, hs, tl, rfl, h1, h5, hok, hz, rfl⟩ := h
  refine ds_ret (de_ix (dx_l (d := eSt (runs rows (begin0 rows.length) hs)) ?_) (de_cal (ok_standings_of T) hr (da_cons (dv 0 rfl rfl) (da_cons (dv 1 rfl rfl) da_nil)) ⟨rows, hs, tl, rfl, h1, h5, hok, hz, rfl⟩) (de_neg de_int)) rfl
  rw [stands_succ, List.take_length]
  exact atI_last _ _
end
end OP

set_option Elab.async false
set_option linter.all false
set_option maxRecDepth 100000
set_option maxHeartbeats 4000000
/-! OpD6: run_out -/
namespace OP
open PySem PySem.Spec PyProof.Rows L2
/-- the first hand left moves, at most n times -/
def outs (rows : List Int) : Nat → St → List Nat
  | 0, _ => []
  | n + 1, s => match left s with
    | [] => []
    | h :: _ => h :: outs rows n (moved rows s h)
theorem left_mem {s : St} {h : Nat} (m : h ∈ left s) : ∃ x, s.states[h]? = some (some x) := by
  unfold left at m
  obtain ⟨⟨a, i⟩, hz, rfl⟩ := List.mem_map.mp m
  obtain ⟨hz, ha⟩ := List.mem_filter.mp hz
  have e := List.mem_zipIdx_iff_getElem?.mp hz
  cases a with
  | none => cases ha
  | some x => exact ⟨x, e⟩
theorem mem_left {s : St} {h : Nat} {x} (e : s.states[h]? = some (some x)) : h ∈ left s := by
  unfold left
  exact List.mem_map.mpr ⟨(some x, h), List.mem_filter.mpr ⟨List.mem_zipIdx_iff_getElem?.mpr e, rfl⟩, rfl⟩
theorem outs_nil {rows : List Int} {s : St} (h : left s = []) : ∀ n, outs rows n s = []
  | 0 => rfl
  | n + 1 => by
    unfold outs
    rw [h]
theorem outs_cons {rows : List Int} {s : St} {h : Nat} {r : List Nat} (e : left s = h :: r) (n : Nat) : outs rows (n + 1) s = h :: outs rows n (moved rows s h) := by
  rw [outs, e]
theorem okw_outs {rows : List Int} : ∀ (n : Nat) (s : St), Okw rows s (outs rows n s)
  | 0, _ => trivial
  | n + 1, s => by
    cases e : left s with
    | nil =>
      rw [outs_nil e]
      trivial
    | cons h r =>
      rw [outs_cons e]
      exact ⟨left_mem (by rw [e]; exact List.mem_cons_self), okw_outs n _⟩
theorem outs_length {rows : List Int} : ∀ (n : Nat) (s : St), (outs rows n s).length ≤ n
  | 0, _ => Nat.le_refl _
  | n + 1, s => by
    cases e : left s with
    | nil =>
      rw [outs_nil e]
      exact Nat.zero_le _
    | cons h r =>
      rw [outs_cons e, List.length_cons]
      exact Nat.succ_le_succ (outs_length n _)
section
variable {P : Program} {w : World} {K : PySem.W.Frag} {mg : Str → Option Value} {base : Heap} {C : Addr}
def R_run_out : List W → W → Prop := fun ws v => ∃ rows hs tl m, ws = [.d (.play rows), wvW tl hs] ∧ 1 ≤ rows.length ∧ rows.length ≤ 5 ∧ Okw rows (begin0 rows.length) hs ∧ hs.length + m ≤ 5000 ∧
  left (runs rows (runs rows (begin0 rows.length) hs) (outs rows m (runs rows (begin0 rows.length) hs))) = [] ∧ v = .d (.tup ((hs ++ outs rows m (runs rows (begin0 rows.length) hs)).map nI))
theorem ok_run_out (T : Tx K mg C) : Okf P w K mg base 7 "run_out" (spD C K R_run_out) := by
  refine okD T.a_run_out sc_run_out bn_run_out (fun ws v ⟨_, _, _, _, h, _⟩ => h ▸ rfl) fun f cdv A outer s H E hr ws v h => ?_
  obtain ⟨rows, hs, tl, m, rfl, h1, h5, hok, hz, hend, rfl⟩ := h
  have nd := sc_run_out.nd
  have W0 := wf_runs (hs := hs) (wf_begin (rows := rows) h5)
  generalize hs0 : runs rows (begin0 rows.length) hs = s0 at *
  have h10 : ∀ {st : St}, Wf rows st → st.states.length ≤ 1000 := fun w => by rw [w.ls]; omega
  refine ds_set (i := 2) (w := .d (eSt s0)) (de_cal (ok_run T) hr (da_cons (dv 0 rfl rfl) (da_cons (dv 1 rfl rfl) da_nil)) ⟨rows, hs, tl, rfl, h1, h5, hok, by omega, by rw [hs0]⟩) ?_ nd
  refine ds_ownW (i := 3) (xs := hs.map nI) [1] (dl_listW (by cases tl <;> simp [wvW]) (dv 1 rfl rfl) T.f_list) ?_ (fun j w' hj e => ?_) nd (by simp [startW])
  · refine ds_set (i := 4) (de_cal (ok_movers T) hr (da_cons (dv 2 rfl rfl) da_nil) ⟨s0, rfl, h10 W0, rfl⟩) ?_ nd
    refine ds_while (fun j δ' => ∃ (fs : List Nat) (st : St), Wf rows st ∧ fs ++ outs rows j st = hs ++ outs rows m s0 ∧ left (runs rows st (outs rows j st)) = [] ∧ fs.length + j ≤ 5000 ∧ δ' = [some (.d (.play rows)), none, some (.d (eSt st)), some (.l (fs.map nI)), some (.d (.tup ((left st).map nI)))]) m ⟨hs, s0, W0, rfl, hend, hz, rfl⟩ fun j δ' hI => ?_
    obtain ⟨fs, st, Wt, he, hl, hj, rfl⟩ := hI
    refine ⟨decide (0 < (left st).length), Dt.is (dt_cmp dr_gt (de_callB dc_lenT T.f_len (da_cons (dv 4 rfl rfl) da_nil)) de_int) (by rw [List.length_map]; simp), fun hk => ?_, fun hk => ?_⟩
    · cases e : left st with
      | nil => rw [e] at hk; cases hk
      | cons h r =>
        obtain ⟨x, hx⟩ := left_mem (s := st) (h := h) (by rw [e]; exact List.mem_cons_self)
        cases j with
        | zero =>
          have hl : left st = [] := hl
          rw [e] at hl
          cases hl
        | succ j =>
          rw [outs_cons e] at he hl
          have h0 : atI ((h :: r).map nI) 0 = some (nI h) := atI_nat (j := 0) rfl
          refine ds_set (i := 2) (de_cal (ok_after_step T) hr (da_cons (dv 0 rfl rfl) (da_cons (dv 2 rfl rfl) (da_cons (de_ix (dx_t h0) (dv 4 rfl rfl) de_int) da_nil))) ⟨rows, st, h, x, rfl, Wt, hx, rfl⟩) ?_ nd
          refine ds_app (i := 3) (xs := fs.map nI) rfl (de_ix (dx_t h0) (dv 4 rfl rfl) de_int) (by rw [List.length_map]; omega) ?_
          refine ds_set (i := 4) (de_cal (ok_movers T) hr (da_cons (dv 2 rfl rfl) da_nil) ⟨moved rows st h, rfl, h10 (wf_moved Wt h), rfl⟩) (ds_nil ?_) nd
          refine ⟨j, Nat.lt_succ_self j, fs ++ [h], moved rows st h, wf_moved Wt h, by rw [← he]; simp, hl, by simp; omega, ?_⟩
          rw [List.map_append]
          rfl
    · have hk := of_decide_eq_false hk
      have e : left st = [] := List.eq_nil_of_length_eq_zero (by omega)
      rw [outs_nil e, List.append_nil] at he
      refine ds_ret (de_callTy dc_tupL T.f_tuple (da_cons (dv 3 rfl rfl) da_nil)) ?_
      rw [he]
  · match j, e with
    | 0, e => cases e; exact ⟨_, rfl⟩
    | 1, e => cases e
    | 2, e => cases e; exact ⟨_, rfl⟩
    | 4, e => cases e
    | n + 5, e => cases e
end
end OP

set_option Elab.async false
set_option linter.all false
set_option maxRecDepth 100000
set_option maxHeartbeats 4000000
/-! OpD7: the faults -/
namespace OP
open PySem PySem.Spec PyProof.Rows L2
section
variable {C : Addr} {X : Cx} {o : Option Nat} {δ : Dn} {rest : List Stmt} {O : Ot} {e tg : Expr} {pos p q p2 p3 : Pos}
theorem di_tupM {α : Type} {f : α → D} {xs : List α} (h : De C X δ e (.d (.tup (xs.map f)))) : Di true C X δ tg e (xs.map fun x => .d (f x)) := by
  have z := di_tup (tg := tg) h
  rw [List.map_map] at z
  exact z
theorem di_listM {α : Type} {f : α → D} {xs : List α} (h : De C X δ e (.l (xs.map f))) : Di false C X δ tg e (xs.map fun x => .d (f x)) := by
  have z := di_list (tg := tg) h
  rw [List.map_map] at z
  exact z
theorem di_enumTM {α : Type} {f : α → D} {xs : List α} {tg : List Expr} {kk : Nat} {pt : Pos} (h : De C X δ e (.d (.tup (xs.map f)))) (hm : X.mg "enumerate" = none) (hg : Gl X "enumerate" := by rfl) (hs : starEach [e] X.env = [(false, eval e X.env)] := by rfl) :
    Di true C X δ (.Tuple tg kk pt) (.Call (.Name "enumerate" p) [e] [] pos) (xs.zipIdx.map fun z => .d (.tup [.int (z.2 : Nat), f z.1])) := by
  rw [← enumD_map]
  exact di_enumT h hm hg hs
theorem zip_enc (cs : List Int) : ((cs.map D.int).zip ((cs.map D.int).drop 1)).map (fun z => W.d (.tup [z.1, z.2])) = (cs.zip (cs.drop 1)).map fun z => .d (.tup [.int z.1, .int z.2]) := by
  rw [← List.map_drop, List.zip_map, List.map_map]
  rfl
theorem cutD_one (xs : List D) : cutD xs (some 1) none = xs.drop 1 := by
  cases xs with
  | nil => unfold cutD; simp
  | cons a r => exact cutD_from (n := 1) (by simp)
/-- zip(cs, cs[1:]) -/
theorem di_zip1 {e' : Expr} {tg : List Expr} {kk : Nat} {pt : Pos} {cs : List Int} {jj : Nat} (h : De C X δ e (.d (.tup (cs.map D.int)))) (h' : De C X δ e' (.d (.tup (cs.map D.int)))) (hm : X.mg "zip" = none) (hg : Gl X "zip" := by rfl) (hs : starEach [e, .Subscript e' (.Slice (some (.Constant (.int 1) jj p)) none none p2) p3] X.env = (false, eval e X.env) :: starEach [.Subscript e' (.Slice (some (.Constant (.int 1) jj p)) none none p2) p3] X.env := by rfl)
    (hs2 : starEach [.Subscript e' (.Slice (some (.Constant (.int 1) jj p)) none none p2) p3] X.env = (false, eval (.Subscript e' (.Slice (some (.Constant (.int 1) jj p)) none none p2) p3) X.env) :: starEach [] X.env := by rfl)
    (hpl : (backTo pos (starEach [.Subscript e' (.Slice (some (.Constant (.int 1) jj p)) none none p2) p3] X.env)).any (·.1) = false := by rfl) :
    Di true C X δ (.Tuple tg kk pt) (.Call (.Name "zip" q) [e, .Subscript e' (.Slice (some (.Constant (.int 1) jj p)) none none p2) p3] [] pos) ((cs.zip (cs.drop 1)).map fun z => .d (.tup [.int z.1, .int z.2])) := by
  have z := di_zipT (C := C) (X := X) (δ := δ) (tg := tg) (kk := kk) (pt := pt) (pos := pos) (p := q) h (de_slT (p2 := p2) (pos := p3) h' (do_some (de_int (i := 1) (j := jj) (pos := p))) do_none) hm hg hs hs2 hpl
  rw [cutD_one, zip_enc] at z
  exact z
theorem de_allP {α : Type} {xs : List α} {pp : α → Bool} (h : Dl C X δ e (xs.map fun x => .bl (pp x))) (hm : X.mg "all" = none) (hc : X.calm = true := by rfl) (hg : Gl X "all" := by rfl)
    (he : starEach [e] X.env = (false, eval e X.env) :: starEach [] X.env := by rfl) (hpl : (backTo pos (starEach [] X.env)).any (·.1) = false := by rfl) : De C X δ (.Call (.Name "all" p) [e] [] pos) (.d (.bl (xs.all pp))) := by
  have e1 : (xs.map fun x => D.bl (pp x)) = (xs.map pp).map D.bl := by rw [List.map_map]; rfl
  rw [e1] at h
  have z := de_callB (p := p) (pos := pos) (dc_all (C := C) hc) hm (da_cons (de_of_l h) da_nil he) hg bb_all (by decide) (by decide) he hpl
  refine z.is ?_
  rw [List.all_map]
  rfl
theorem de_anyP {α : Type} {xs : List α} {pp : α → Bool} (h : Dl C X δ e (xs.map fun x => .bl (pp x))) (hm : X.mg "any" = none) (hc : X.calm = true := by rfl) (hg : Gl X "any" := by rfl)
    (he : starEach [e] X.env = (false, eval e X.env) :: starEach [] X.env := by rfl) (hpl : (backTo pos (starEach [] X.env)).any (·.1) = false := by rfl) : De C X δ (.Call (.Name "any" p) [e] [] pos) (.d (.bl (xs.any pp))) := by
  have e1 : (xs.map fun x => D.bl (pp x)) = (xs.map pp).map D.bl := by rw [List.map_map]; rfl
  rw [e1] at h
  have z := de_callB (p := p) (pos := pos) (dc_any (C := C) hc) hm (da_cons (de_of_l h) da_nil he) hg bb_any (by decide) (by decide) he hpl
  refine z.is ?_
  rw [List.any_map]
  rfl
theorem de_allT {α : Type} {xs : List α} (h : Dl C X δ e (xs.map fun _ => .bl true)) (hm : X.mg "all" = none) (hc : X.calm = true := by rfl) (hg : Gl X "all" := by rfl)
    (he : starEach [e] X.env = (false, eval e X.env) :: starEach [] X.env := by rfl) (hpl : (backTo pos (starEach [] X.env)).any (·.1) = false := by rfl) : De C X δ (.Call (.Name "all" p) [e] [] pos) (.d (.bl true)) :=
  (de_allP (pp := fun _ => true) h hm hc hg he hpl).is (by simp)
theorem de_anyF {α : Type} {xs : List α} (h : Dl C X δ e (xs.map fun _ => .bl false)) (hm : X.mg "any" = none) (hc : X.calm = true := by rfl) (hg : Gl X "any" := by rfl)
    (he : starEach [e] X.env = (false, eval e X.env) :: starEach [] X.env := by rfl) (hpl : (backTo pos (starEach [] X.env)).any (·.1) = false := by rfl) : De C X δ (.Call (.Name "any" p) [e] [] pos) (.d (.bl false)) :=
  (de_anyP (pp := fun _ => false) h hm hc hg he hpl).is (by simp)
/-- a call of a def that a local holds -/
theorem de_callL {i j k : Nat} {x : Str} {f : Addr} {fd : FuncData} {ps : List Str} {R : List W → W → Prop} {es : List Expr} {ws : List W} {w : W} (Fo : FnOk X.prog X.w X.K X.mg X.base CX0 j f fd ps (spD C X.K R)) (hk : PySem.W.keepIn X.K (.ref f) = true) (hb : Binds X.K fd ps []) (hr : Room k X.A) (hδ : δ[i]? = some (some (.d (.raw (.ref f)))))
    (ha : Da C X δ (e :: es) ws) (h : R ws w) (hj : j ≤ k := by decide) (hN : X.N[i]? = some x := by rfl) (hv : Vis X.env.scope x := by first | exact Or.inl rfl | exact Or.inr (Or.inl rfl) | exact Or.inr (Or.inr rfl)) (hd : (x == ("__debug__" : Str)) = false := by decide) (hcd : (x == ("__classdict__" : Str)) = false := by decide)
    (he : starEach (e :: es) X.env = (false, eval e X.env) :: starEach es X.env := by rfl) (hpl : (backTo pos (starEach es X.env)).any (·.1) = false := by rfl) : De C X δ (.Call (.Name x p) (e :: es) [] pos) w := fun σ H Q E q => by
  obtain ⟨v, a, r⟩ := E.2 i _ hδ
  have ev : v = .ref f := by cases r; rfl
  subst ev
  refine ⟨_, pe_callL (i := i) (Fo.mono hj) hr hN hv hk hb .nil pass0 pa_w hd hcd he hpl, a, ?_⟩
  refine ha σ H _ E fun vs H1 s1 r1 => ?_
  rw [List.append_nil]
  exact ⟨ws, w, r1, h, fun v H2 s2 r2 => q v H2 (s1.trans s2) r2⟩
end
theorem dr_notMan {C : Addr} {X : Cx} {i : Str} (hk : (!inV (.str i) (manN.map V.str)) = true := by decide +kernel) : DR C X (compareOp .NotIn) (.d (.str i)) (.d (.tup (manN.map D.str))) (.d (.bl true)) := dr_notInS hk
def hd (it : Item) : List Int := it.map (·.1)
/-- a fit item -/
structure GoodI (n : Nat) (it : Item) : Prop where
  ln : it.length ≤ 5
  lt : ∀ p ∈ it, (0 ≤ p.1 ∧ p.1 < n) ∧ 0 ≤ p.2 ∧ p.2 ≤ 999
  asc : (hd it).Pairwise (· < ·)
section
variable {P : Program} {w : World} {K : PySem.W.Frag} {mg : Str → Option Value} {base : Heap} {C : Addr}
def R_is_came : List W → W → Prop := fun ws v => ∃ (rows cs : List Int), ws = [.d (.play rows), .d (.tup (cs.map D.int))] ∧ (∀ i ∈ cs, 0 ≤ i ∧ i < rows.length) ∧ cs.Pairwise (· < ·) ∧ cs.length ≤ 1000 ∧ v = .d (.bl true)
theorem pair_zip : ∀ {cs : List Int}, cs.Pairwise (· < ·) → ∀ z ∈ cs.zip (cs.drop 1), z.1 < z.2
  | [], _, z, h => by simp at h
  | [a], _, z, h => by simp at h
  | a :: b :: r, h, z, hz => by
    have hz : z ∈ (a, b) :: (b :: r).zip ((b :: r).drop 1) := hz
    rcases List.mem_cons.mp hz with rfl | hz
    · exact (List.pairwise_cons.mp h).1 b List.mem_cons_self
    · exact pair_zip (List.pairwise_cons.mp h).2 z hz
theorem ok_is_came (T : Tx K mg C) : Okf P w K mg base 5 "is_came" (spD C K R_is_came) := by
  refine okD T.a_is_came sc_is_came bn_is_came (fun ws v ⟨_, _, h, _⟩ => h ▸ rfl) fun f cdv A outer s H E hr ws v h => ?_
  have nd := sc_is_came.nd
  obtain ⟨rows, cs, rfl, hlt, hasc, hz, rfl⟩ := h
  refine ds_skip (Dt.is (Dw.t (dw_or (dt_not (dt_val (de_isi (k := true) (dv 1 rfl rfl) T.f_isinstance T.f_tuple bb_tuple))) fun _ => dw_or1 (dt_not (dt_val (x := true) (de_allT (dl_lcN (t := true) (own := [("item", 4)]) (g := gName 4) (xs := cs) (enc := fun i => .d (.int i)) (fun _ => .bl true) (blkOk_by (N := n_is_came) (sc := defScope (topS 89)) (by decide +kernel)) (fun _ _ _ _ _ => pg_name nd rfl (by first | exact .inl rfl | exact .inr rfl)) (di_tupM (dv 1 rfl rfl)) nd (by omega) fun i hi => ⟨_, dg_name, fun _ _ _ _ _ => ?_⟩) T.f_all))))) rfl) (ds_ret (de_allT (dl_lcN (t := true) (own := [("one", 2), ("other", 3)]) (g := (gTup K 2 (gCons (gName 2) (gCons (gName 3) gNil)))) (xs := cs.zip (cs.drop 1)) (enc := fun z => .d (.tup [.int z.1, .int z.2])) (fun _ => .bl true) (blkOk_by (N := n_is_came) (sc := defScope (topS 89)) (by decide +kernel)) (fun _ _ _ _ _ => pg_tup rfl (pgs_cons (pg_name nd rfl (by first | exact .inl rfl | exact .inr rfl)) (pgs_cons (pg_name nd rfl (by first | exact .inl rfl | exact .inr rfl)) pgs_nil))) (di_zip1 (dv 1 rfl rfl) (dv 1 rfl rfl) T.f_zip) nd (by rw [List.length_zip]; omega) fun z hz => ⟨_, dg_tup2, fun _ _ _ _ _ => ?_⟩) T.f_all) rfl)
  · obtain ⟨h0, h1⟩ := hlt i hi
    obtain ⟨k, rfl⟩ := Int.eq_ofNat_of_zero_le h0
    exact de_cal (ok_is_hand T) hr (da_cons ((dv 0 rfl rfl)) (da_cons ((dv 4 rfl rfl)) da_nil)) ⟨rows, k, rfl, by omega, rfl⟩
  · have z1 := pair_zip hasc z hz
    exact De.is (de_cmp dr_lt (dv 2 rfl rfl) (dv 3 rfl rfl)) (by simp [z1])
def R_is_number_and_value : List W → W → Prop := fun ws v => ∃ (a b : Int), ws = [.d (.tup [.int a, .int b])] ∧ (0 ≤ a ∧ a ≤ 99999999999999999999) ∧ (0 ≤ b ∧ b ≤ 999) ∧ v = .d (.bl true)
theorem ok_is_number_and_value (T : Tx K mg C) : Okf P w K mg base 5 "is_number_and_value" (spD C K R_is_number_and_value) := by
  refine okD T.a_is_number_and_value sc_is_number_and_value bn_is_number_and_value (fun ws v ⟨_, _, h, _⟩ => h ▸ rfl) fun f cdv A outer s H E hr ws v h => ?_
  have nd := sc_is_number_and_value.nd
  obtain ⟨a, b, rfl, ha, hb, rfl⟩ := h
  refine ds_ret (De.is (de_and (de_cal (ok_is_pair T) hr (da_cons ((dv 0 rfl rfl)) da_nil) ⟨_, _, rfl, rfl⟩) fun _ => de_and (de_cal (ok_is_below T) hr (da_cons (de_ix (dx_t (d := .int a) rfl) (dv 0 rfl rfl) de_int) (da_cons (de_gint T.i_MOST_NUMBER) da_nil)) ⟨_, _, rfl, rfl⟩) fun _ => de_one (de_cal (ok_is_value T) hr (da_cons (de_ix (dx_t (d := .int b) rfl) (dv 0 rfl rfl) de_int) da_nil) ⟨_, rfl, rfl⟩)) ?_) rfl
  have h1 : a ≤ 100000000000000000000 - 1 := by omega
  have h2 : b ≤ 1000 - 1 := by omega
  simp only [ha.1, hb.1, h1, h2, decide_true, Bool.and_true]
def R_is_at_once : List W → W → Prop := fun ws v => ∃ (rows : List Int) (it : Item), ws = [.d (.play rows), .d (eI it)] ∧ rows.length ≤ 5 ∧ GoodI rows.length it ∧ v = .d (.bl true)
theorem ok_is_at_once (T : Tx K mg C) : Okf P w K mg base 6 "is_at_once" (spD C K R_is_at_once) := by
  refine okD T.a_is_at_once sc_is_at_once bn_is_at_once (fun ws v ⟨_, _, h, _⟩ => h ▸ rfl) fun f cdv A outer s H E hr ws v h => ?_
  have nd := sc_is_at_once.nd
  obtain ⟨rows, it, rfl, h5, hg, rfl⟩ := h
  have hln := hg.ln
  refine ds_skip (Dt.is (Dw.t (dw_or (dt_not (dt_val (de_isi (k := true) (dv 1 rfl rfl) T.f_isinstance T.f_tuple bb_tuple (hw := by simp [tyW, eI])))) fun _ => dw_or1 (dt_not (dt_val (x := true) (de_allT (dl_lcN (t := true) (own := [("item", 2)]) (g := gName 2) (xs := it) (enc := fun i => .d (eP i)) (fun _ => .bl true) (blkOk_by (N := n_is_at_once) (sc := defScope (topS 92)) (by decide +kernel)) (fun _ _ _ _ _ => pg_name nd rfl (by first | exact .inl rfl | exact .inr rfl)) (di_tupM (dv 1 rfl rfl)) nd (by omega) fun i hi => ⟨_, dg_name, fun _ _ _ _ _ => ?_⟩) T.f_all))))) rfl) (ds_ret (de_cal (ok_is_came T) hr (da_cons ((dv 0 rfl rfl)) (da_cons ((de_callTy dc_tupL T.f_tuple (da_cons (de_of_l (dl_lcN (t := true) (own := [("item", 2)]) (g := gName 2) (xs := it) (enc := fun i => .d (eP i)) (fun i => .int i.1) (blkOk_by (N := n_is_at_once) (sc := defScope (topS 92)) (by decide +kernel)) (fun _ _ _ _ _ => pg_name nd rfl (by first | exact .inl rfl | exact .inr rfl)) (di_tupM (dv 1 rfl rfl)) nd (by omega) fun i hi => ⟨_, dg_name, fun _ _ _ _ _ => de_ix (dx_t rfl) (dv 2 rfl rfl) de_int⟩)) da_nil))) da_nil)) ⟨rows, hd it, ?_, fun i hi => ?_, hg.asc, ?_, rfl⟩) rfl)
  · obtain ⟨⟨h0, h1⟩, h2, h3⟩ := hg.lt i hi
    exact de_cal (ok_is_number_and_value T) hr (da_cons ((dv 2 rfl rfl)) da_nil) ⟨i.1, i.2, rfl, ⟨h0, by omega⟩, ⟨h2, h3⟩, rfl⟩
  · unfold hd
    rw [List.map_map]
    rfl
  · obtain ⟨p, hp, rfl⟩ := List.mem_map.mp hi
    exact (hg.lt p hp).1
  · unfold hd
    rw [List.length_map]
    omega
def R_is_item : List W → W → Prop := R_is_at_once
theorem ok_is_item (T : Tx K mg C) : Okf P w K mg base 7 "is_item" (spD C K R_is_item) := by
  refine okD T.a_is_item sc_is_item bn_is_item (fun ws v ⟨_, _, h, _⟩ => h ▸ rfl) fun f cdv A outer s H E hr ws v h => ?_
  have nd := sc_is_item.nd
  obtain ⟨rows, it, rfl, h5, hg, rfl⟩ := h
  refine ds_skip (dt_cmp dr_noMan (de_kind ((dv 0 rfl rfl)) T.cls T.na_kind) (de_man T.manners)) (ds_ifT (dt_cmp dr_eqS (de_kind ((dv 0 rfl rfl)) T.cls T.na_kind) (de_gstr T.s_LEVELS)) (ds_ret (de_cal (ok_is_at_once T) hr (da_cons ((dv 0 rfl rfl)) (da_cons ((dv 1 rfl rfl)) da_nil)) ⟨rows, it, rfl, h5, hg, rfl⟩) rfl))
def R_most_told : List W → W → Prop := fun ws v => ∃ (rows : List Int) (h : Nat), ws = [.d (.play rows), .d (nI h)] ∧ v = .d (.int 1)
theorem ok_most_told (T : Tx K mg C) : Okf P w K mg base 1 "most_told" (spD C K R_most_told) := by
  refine okD T.a_most_told sc_most_told bn_most_told (fun ws v ⟨_, _, h, _⟩ => h ▸ rfl) fun f cdv A outer s H E hr ws v h => ?_
  have nd := sc_most_told.nd
  obtain ⟨rows, h, rfl, rfl⟩ := h
  exact ds_ifT (dt_cmp dr_notMan (de_kind ((dv 0 rfl rfl)) T.cls T.na_kind) (de_man T.manners)) (ds_ret de_int rfl)
def R_is_told : List W → W → Prop := fun ws v => ∃ (rows : List Int) (told : List (List Item)), ws = [.d (.play rows), .d (.tup (told.map eT))] ∧ told.length = rows.length ∧ rows.length ≤ 5 ∧ (∀ its ∈ told, its.length ≤ 1 ∧ ∀ it ∈ its, GoodI rows.length it) ∧ v = .d (.bl true)
theorem enumD_mapAt {α : Type} {f : α → D} {xs : List α} {t : Nat} {w : W} (h : (enumD (xs.map f))[t]? = some w) : ∃ k, xs[t]? = some k ∧ w = .d (.tup [.int (t : Nat), f k]) := by
  rw [enumD_map, List.getElem?_map, List.getElem?_zipIdx] at h
  cases e : xs[t]? with
  | none =>
    rw [e] at h
    cases h
  | some k =>
    rw [e] at h
    simp only [Option.map_some, Option.some.injEq, Nat.zero_add] at h
    exact ⟨k, rfl, h.symm⟩
theorem ok_is_told (T : Tx K mg C) : Okf P w K mg base 8 "is_told" (spD C K R_is_told) := by
  refine okD T.a_is_told sc_is_told bn_is_told (fun ws v ⟨_, _, h, _⟩ => h ▸ rfl) fun f cdv A outer s H E hr ws v h => ?_
  have nd := sc_is_told.nd
  obtain ⟨rows, told, rfl, hl, h5, hg, rfl⟩ := h
  refine ds_set (i := 2) (De.is (w' := .d (.int (rows.length : Nat))) (de_callB dc_lenT T.f_len (da_cons ((de_rows ((dv 0 rfl rfl)) T.cls T.na_rows)) da_nil)) (by rw [List.length_map])) ?_ nd
  refine ds_skip (Dt.is (dt_not (dt_val (de_cal (ok_is_sized T) hr (da_cons ((dv 1 rfl rfl)) (da_cons ((dv 2 rfl rfl)) (da_cons ((dv 2 rfl rfl)) da_nil))) ⟨_, _, _, rfl, rfl⟩))) (by rw [List.length_map, hl]; simp)) ?_
  refine ds_for (t := true) (ws := enumD (told.map eT)) (di_enumT (dv 1 rfl rfl) T.f_enumerate) (pg_tup rfl (pgs_cons (pg_name nd rfl (by first | exact .inl rfl | exact .inr rfl)) (pgs_cons (pg_name nd rfl (by first | exact .inl rfl | exact .inr rfl)) pgs_nil))) (g := (gTup K 2 (gCons (gName 3) (gCons (gName 4) gNil)))) (fun t δ' => ∃ a b c, δ' = [some (.d (.play rows)), some (.d (.tup (told.map eT))), some (.d (.int (rows.length : Nat))), a, b, c]) ⟨none, none, none, rfl⟩ (fun t w' δ' hw hI => ?_) fun δ' hI => ?_
  · obtain ⟨a, b, c, rfl⟩ := hI
    obtain ⟨its, hk, rfl⟩ := enumD_mapAt hw
    obtain ⟨h1, hi⟩ := hg its (List.mem_of_getElem? hk)
    refine ⟨_, dgm_tup2 (x := nI t), ?_⟩
    refine ds_skip (Dt.is (Dw.t (dw_or (dt_not (dt_val (x := true) (De.is (de_cal (ok_is_sized T) hr (da_cons ((dv 4 rfl rfl)) (da_cons (de_int) (da_cons (de_cal (ok_most_told T) hr (da_cons ((dv 0 rfl rfl)) (da_cons ((dv 3 rfl rfl)) da_nil)) ⟨rows, t, rfl, rfl⟩) da_nil))) ⟨_, _, _, rfl, rfl⟩) (by rw [List.length_map]; simp; omega)))) fun _ => dw_or1 (dt_not (dt_val (x := true) (de_allT (dl_lcN (t := true) (own := [("item", 5)]) (g := gName 5) (xs := its) (enc := fun i => .d (eI i)) (fun _ => .bl true) (blkOk_by (N := n_is_told) (sc := defScope (topS 95)) (by decide +kernel)) (fun _ _ _ _ _ => pg_name nd rfl (by first | exact .inl rfl | exact .inr rfl)) (di_tupM (dv 4 rfl rfl)) nd (by omega) fun i hi' => ⟨_, dg_name, fun _ _ _ _ _ => de_cal (ok_is_item T) hr (da_cons ((dv 0 rfl rfl)) (da_cons ((dv 5 rfl rfl)) da_nil)) ⟨rows, i, rfl, h5, hi i hi', rfl⟩⟩) T.f_all))))) rfl) (ds_nil ⟨_, _, _, rfl⟩)
  · obtain ⟨a, b, c, rfl⟩ := hI
    exact ds_ret de_bl rfl
def R_flat : List W → W → Prop := fun ws v => ∃ (told : List (List Item)), ws = [.d (.tup (told.map eT))] ∧ told.flatten.length ≤ 1000 ∧ v = .l (told.flatten.map eI)
theorem take_flat {α : Type} {told : List (List α)} {t : Nat} {its : List α} (h : told[t]? = some its) : (told.take (t + 1)).flatten = (told.take t).flatten ++ its := by
  rw [List.take_add_one, h, List.flatten_append]
  simp
theorem take_flat_le {α : Type} (told : List (List α)) (t : Nat) : (told.take t).flatten.length ≤ told.flatten.length := by
  have e : told.flatten = (told.take t).flatten ++ (told.drop t).flatten := by rw [← List.flatten_append, List.take_append_drop]
  rw [e, List.length_append]
  omega
theorem ok_flat (T : Tx K mg C) : Okf P w K mg base 1 "flat" (spD C K R_flat) := by
  refine okD T.a_flat sc_flat bn_flat (fun ws v ⟨_, h, _⟩ => h ▸ rfl) fun f cdv A outer s H E hr ws v h => ?_
  have nd := sc_flat.nd
  obtain ⟨told, rfl, hz, rfl⟩ := h
  refine ds_own (i := 1) (xs := []) (dl_lst dd_nil) ?_ (fun j w' hj e => ?_) nd (by simp [startW])
  · refine ds_for (t := true) (di_tupM (xs := told) (f := eT) (dv 0 rfl rfl)) (pg_name nd rfl (by first | exact .inl rfl | exact .inr rfl)) (g := gName 2) (fun t δ' => ∃ a, δ' = [some (.d (.tup (told.map eT))), some (.l (((told.take t).flatten).map eI)), a]) ⟨none, rfl⟩ (fun t w' δ' hw hI => ?_) fun δ' hI => ?_
    · obtain ⟨a, rfl⟩ := hI
      rw [List.getElem?_map] at hw
      cases e : told[t]? with
      | none => rw [e] at hw; cases hw
      | some its =>
        rw [e] at hw
        cases hw
        have l1 := take_flat_le told (t + 1)
        rw [take_flat e, List.length_append] at l1
        refine ⟨_, dgm_name, ds_ext (i := 1) (xs := ((told.take t).flatten).map eI) (ys := its.map eI) rfl (dv 2 rfl rfl) (by rw [List.length_map, List.length_map]; omega) (ds_nil ⟨some (.d (eT its)), ?_⟩)⟩
        rw [take_flat e, List.map_append]
        rfl
    · obtain ⟨a, rfl⟩ := hI
      refine ds_ret (dv 1 rfl rfl) ?_
      rw [List.length_map, List.take_length]
  · match j, e with
    | 0, e => cases e; exact ⟨_, rfl⟩
    | 2, e => cases e
    | n + 3, e => cases e
def lotB (as bs : List Int) : Bool := as.all fun a => decide (a ∈ bs)
def R_is_within_lot : List W → W → Prop := fun ws v => ∃ (as bs : List Int), ws = [.d (.tup (as.map D.int)), .d (.tup (bs.map D.int))] ∧ as.length ≤ 1000 ∧ v = .d (.bl (lotB as bs))
theorem ok_is_within_lot (T : Tx K mg C) : Okf P w K mg base 1 "is_within_lot" (spD C K R_is_within_lot) := by
  refine okD T.a_is_within_lot sc_is_within_lot bn_is_within_lot (fun ws v ⟨_, _, h, _⟩ => h ▸ rfl) fun f cdv A outer s H E hr ws v h => ?_
  have nd := sc_is_within_lot.nd
  obtain ⟨as, bs, rfl, hz, rfl⟩ := h
  exact ds_ret (de_allP (dl_lcN (t := true) (own := [("item", 2)]) (g := gName 2) (xs := as) (enc := fun i => .d (.int i)) (fun a => .bl (decide (a ∈ bs))) (blkOk_by (N := n_is_within_lot) (sc := defScope (topS 98)) (by decide +kernel)) (fun _ _ _ _ _ => pg_name nd rfl (by first | exact .inl rfl | exact .inr rfl)) (di_tupM (dv 0 rfl rfl)) nd (by omega) fun i hi' => ⟨_, dg_name, fun _ _ _ _ _ => de_cmp dr_inT (dv 2 rfl rfl) (dv 1 rfl rfl)⟩) T.f_all) rfl
def R_are_chain (mg : Str → Option Value) : List W → W → Prop := fun ws v => ∃ (ls : List (List Int)) (f : Addr), ws = [.l (ls.map fun l => .tup (l.map D.int)), .d (.raw (.ref f))] ∧ mg "is_within_lot" = some (.ref f) ∧ ls.length ≤ 1000 ∧ (∀ a ∈ ls, a.length ≤ 1000) ∧ (∀ a ∈ ls, ∀ b ∈ ls, lotB a b = true ∨ lotB b a = true) ∧ v = .d (.bl true)
theorem ok_are_chain (T : Tx K mg C) : Okf P w K mg base 2 "are_chain" (spD C K (R_are_chain mg)) := by
  refine okD T.a_are_chain sc_are_chain bn_are_chain (fun ws v ⟨_, _, h, _⟩ => h ▸ rfl) fun f cdv A outer s H E hr ws v h => ?_
  have nd := sc_are_chain.nd
  obtain ⟨ls, f0, rfl, hm, hz, hz2, hc, rfl⟩ := h
  obtain ⟨f1, fd, ps, hm1, hk, Fo, hb⟩ := ok_is_within_lot (P := P) (w := w) (base := base) T
  rw [hm] at hm1
  cases hm1
  refine ds_for (t := false) (ws := enumD (ls.map fun l => .tup (l.map D.int))) (di_enumL (dv 0 rfl rfl) T.f_enumerate) (pg_tup rfl (pgs_cons (pg_name nd rfl (by first | exact .inl rfl | exact .inr rfl)) (pgs_cons (pg_name nd rfl (by first | exact .inl rfl | exact .inr rfl)) pgs_nil))) (g := (gTup K 2 (gCons (gName 2) (gCons (gName 3) gNil)))) (fun t δ' => ∃ a b c, δ' = [some (.l (ls.map fun l => .tup (l.map D.int))), some (.d (.raw (.ref f0))), a, b, c]) ⟨none, none, none, rfl⟩ (fun t w' δ' hw hI => ?_) fun δ' hI => ?_
  · obtain ⟨a, b, c, rfl⟩ := hI
    obtain ⟨one, hk1, rfl⟩ := enumD_mapAt hw
    have ht : t < ls.length := (List.getElem?_eq_some_iff.mp hk1).1
    have ho := List.mem_of_getElem? hk1
    refine ⟨_, dgm_tup2 (x := nI t), ?_⟩
    refine ds_skip (Dt.is (dt_not (dt_val (x := true) (de_allT (dl_lcN (t := false) (own := [("other", 4)]) (g := gName 4) (xs := ls.take t) (enc := fun l => .d (.tup (l.map D.int))) (fun _ => .bl true) (blkOk_by (N := n_are_chain) (sc := defScope (topS 99)) (by decide +kernel)) (fun _ _ _ _ _ => pg_name nd rfl (by first | exact .inl rfl | exact .inr rfl)) (di_listM (De.is (w' := .l ((ls.take t).map fun l => .tup (l.map D.int))) (de_of_l (dl_slL (dv 0 rfl rfl) do_none (do_some (i := (t : Int)) (dv 2 rfl rfl)))) ?_)) nd (by rw [List.length_take]; omega) fun i hi => ⟨_, dg_name, fun _ _ _ _ _ => ?_⟩) T.f_all))) rfl) (ds_nil ⟨_, _, _, rfl⟩)
    · rw [cutD_upto (by rw [List.length_map]; omega), List.map_take]
    · have him := List.mem_of_mem_take hi
      refine De.is (de_or (de_callL (i := 1) Fo hk hb hr rfl (da_cons ((dv 3 rfl rfl)) (da_cons ((dv 4 rfl rfl)) da_nil)) ⟨one, i, rfl, hz2 one ho, rfl⟩) fun _ => de_one (de_callL (i := 1) Fo hk hb hr rfl (da_cons ((dv 4 rfl rfl)) (da_cons ((dv 3 rfl rfl)) da_nil)) ⟨i, one, rfl, hz2 i him, rfl⟩)) ?_
      rcases hc one ho i him with z | z <;> simp [z]
  · obtain ⟨a, b, c, rfl⟩ := hI
    exact ds_ret de_bl rfl
def R_hands_of : List W → W → Prop := fun ws v => ∃ (it : Item), ws = [.d (eI it)] ∧ it.length ≤ 1000 ∧ v = .d (.tup ((hd it).map D.int))
theorem ok_hands_of (T : Tx K mg C) : Okf P w K mg base 1 "hands_of" (spD C K R_hands_of) := by
  refine okD T.a_hands_of sc_hands_of bn_hands_of (fun ws v ⟨_, h, _⟩ => h ▸ rfl) fun f cdv A outer s H E hr ws v h => ?_
  have nd := sc_hands_of.nd
  obtain ⟨it, rfl, hz, rfl⟩ := h
  refine ds_ret (De.is (de_callTy dc_tupL T.f_tuple (da_cons (de_of_l (dl_lcN (t := true) (own := [("hand", 1), ("value", 2)]) (g := (gTup K 2 (gCons (gName 1) (gCons (gName 2) gNil)))) (xs := it) (enc := fun i => .d (.tup [.int i.1, .int i.2])) (fun i => .int i.1) (blkOk_by (N := n_hands_of) (sc := defScope (topS 102)) (by decide +kernel)) (fun _ _ _ _ _ => pg_tup rfl (pgs_cons (pg_name nd rfl (by first | exact .inl rfl | exact .inr rfl)) (pgs_cons (pg_name nd rfl (by first | exact .inl rfl | exact .inr rfl)) pgs_nil))) (di_tupM (dv 0 rfl rfl)) nd (by omega) fun i hi => ⟨_, dg_tup2, fun _ _ _ _ _ => (dv 1 rfl rfl)⟩)) da_nil)) ?_) rfl
  unfold hd
  rw [List.map_map]
  rfl
def R_is_strange : List W → W → Prop := fun ws v => ∃ (rows cs : List Int) (it : Item), ws = [.d (.play rows), .d (.tup (cs.map D.int)), .d (eI it)] ∧ it.length ≤ 1000 ∧ (∀ p ∈ it, p.1 ∈ cs ∧ 0 ≤ p.1 ∧ rows[p.1.toNat]? = some p.2) ∧ v = .d (.bl false)
theorem ok_is_strange (T : Tx K mg C) : Okf P w K mg base 1 "is_strange" (spD C K R_is_strange) := by
  refine okD T.a_is_strange sc_is_strange bn_is_strange (fun ws v ⟨_, _, _, h, _⟩ => h ▸ rfl) fun f cdv A outer s H E hr ws v h => ?_
  have nd := sc_is_strange.nd
  obtain ⟨rows, cs, it, rfl, hz, hg, rfl⟩ := h
  refine ds_ret (de_not (x := true) (de_allT (dl_lcN (t := true) (own := [("hand", 3), ("value", 4)]) (g := (gTup K 2 (gCons (gName 3) (gCons (gName 4) gNil)))) (xs := it) (enc := fun i => .d (.tup [.int i.1, .int i.2])) (fun i => .bl true) (blkOk_by (N := n_is_strange) (sc := defScope (topS 103)) (by decide +kernel)) (fun _ _ _ _ _ => pg_tup rfl (pgs_cons (pg_name nd rfl (by first | exact .inl rfl | exact .inr rfl)) (pgs_cons (pg_name nd rfl (by first | exact .inl rfl | exact .inr rfl)) pgs_nil))) (di_tupM (dv 2 rfl rfl)) nd (by omega) fun i hi => ⟨_, dg_tup2, fun _ _ _ _ _ => ?_⟩) T.f_all)) rfl
  obtain ⟨h1, h0, h2⟩ := hg i hi
  have hx : atI (rows.map D.int) i.1 = some (.int i.2) := by
    obtain ⟨k, hk⟩ := Int.eq_ofNat_of_zero_le h0
    rw [hk] at h2 ⊢
    exact atI_map D.int h2
  exact De.is (de_and (de_cmp dr_inT (dv 3 rfl rfl) (dv 1 rfl rfl)) fun _ => de_one (de_cmp dr_eqI (de_ix (dx_t hx) (de_rows ((dv 0 rfl rfl)) T.cls T.na_rows) (dv 3 rfl rfl)) (dv 4 rfl rfl))) (by simp [h1])
def R_has_more : List W → W → Prop := fun ws v => ∃ (told : List (List Item)) (it : Item), ws = [.d (.tup (told.map eT)), .d (eI it)] ∧ it.length ≤ 1000 ∧ (∀ p ∈ it, ∃ (k : Nat) (its : List Item), p.1 = (k : Nat) ∧ told[k]? = some its ∧ its.length ≤ 1000 ∧ ∀ other ∈ its, other.length ≤ 1000 ∧ lotB (hd other) (hd it) = true) ∧ v = .d (.bl false)
theorem ok_has_more (T : Tx K mg C) : Okf P w K mg base 2 "has_more" (spD C K R_has_more) := by
  refine okD T.a_has_more sc_has_more bn_has_more (fun ws v ⟨_, _, h, _⟩ => h ▸ rfl) fun f cdv A outer s H E hr ws v h => ?_
  have nd := sc_has_more.nd
  obtain ⟨told, it, rfl, hz, hg, rfl⟩ := h
  refine ds_for (t := true) (di_tupM (xs := hd it) (f := D.int) (de_cal (ok_hands_of T) hr (da_cons ((dv 1 rfl rfl)) da_nil) ⟨it, rfl, hz, rfl⟩)) (pg_name nd rfl (by first | exact .inl rfl | exact .inr rfl)) (g := gName 2) (fun t δ' => ∃ a b, δ' = [some (.d (.tup (told.map eT))), some (.d (eI it)), a, b]) ⟨none, none, rfl⟩ (fun t w' δ' hw hI => ?_) fun δ' hI => ?_
  · obtain ⟨a, b, rfl⟩ := hI
    rw [List.getElem?_map] at hw
    cases e : (hd it)[t]? with
    | none => rw [e] at hw; cases hw
    | some i =>
      rw [e] at hw
      cases hw
      have hm := List.mem_of_getElem? e
      obtain ⟨p, hp, rfl⟩ := List.mem_map.mp hm
      obtain ⟨k, its, hk, hits, hl, ho⟩ := hg p hp
      rw [hk]
      have hx : atI (told.map eT) ((k : Nat) : Int) = some (eT its) := atI_map eT hits
      refine ⟨_, dgm_name, ds_skip (Dt.is (dt_not (dt_val (x := true) (de_allT (dl_lcN (t := true) (own := [("other", 3)]) (g := gName 3) (xs := its) (enc := fun l => .d (eI l)) (fun _ => .bl true) (blkOk_by (N := n_has_more) (sc := defScope (topS 104)) (by decide +kernel)) (fun _ _ _ _ _ => pg_name nd rfl (by first | exact .inl rfl | exact .inr rfl)) (di_tupM (de_ix (dx_t hx) (dv 0 rfl rfl) (dv 2 rfl rfl))) nd (by omega) fun i hi => ⟨_, dg_name, fun _ _ _ _ _ => ?_⟩) T.f_all))) rfl) (ds_nil ⟨_, _, rfl⟩)⟩
      obtain ⟨hl1, hb1⟩ := ho i hi
      refine De.is (de_cal (ok_is_within_lot T) hr (da_cons (de_cal (ok_hands_of T) hr (da_cons ((dv 3 rfl rfl)) da_nil) ⟨i, rfl, hl1, rfl⟩) (da_cons (de_cal (ok_hands_of T) hr (da_cons ((dv 1 rfl rfl)) da_nil) ⟨it, rfl, hz, rfl⟩) da_nil)) ⟨_, _, rfl, by unfold hd; rw [List.length_map]; exact hl1, rfl⟩) (by rw [hb1])
  · obtain ⟨a, b, rfl⟩ := hI
    exact ds_ret de_bl rfl
end
end OP

set_option Elab.async false
set_option linter.all false
set_option maxRecDepth 100000
set_option maxHeartbeats 4000000
/-! OpD8: level_fault, raw_fault, fault; inputs -/
namespace OP
open PySem PySem.Spec PyProof.Rows L2
/-- what is told fits -/
structure GoodT (rows cs : List Int) (told : List (List Item)) : Prop where
  nl : told.length = rows.length
  n5 : rows.length ≤ 5
  cl : cs.length ≤ 1000
  clt : ∀ i ∈ cs, 0 ≤ i ∧ i < rows.length
  casc : cs.Pairwise (· < ·)
  one : ∀ its ∈ told, its.length ≤ 1
  gi : ∀ its ∈ told, ∀ it ∈ its, GoodI rows.length it
  val : ∀ its ∈ told, ∀ it ∈ its, ∀ p ∈ it, p.1 ∈ cs ∧ rows[p.1.toNat]? = some p.2
  own : ∀ (k : Nat) (its : List Item), told[k]? = some its → ∀ it ∈ its, (k : Int) ∈ hd it
  chain : ∀ a ∈ told.flatten, ∀ b ∈ told.flatten, lotB (hd a) (hd b) = true ∨ lotB (hd b) (hd a) = true
  inner : ∀ it ∈ told.flatten, ∀ (k : Nat), (k : Int) ∈ hd it → ∀ its, told[k]? = some its → ∀ other ∈ its, lotB (hd other) (hd it) = true
  came : ∀ (k : Nat) (its : List Item), told[k]? = some its → its ≠ [] → (k : Int) ∈ cs
section
variable {rows cs : List Int} {told : List (List Item)}
theorem GoodT.fl (g : GoodT rows cs told) : told.flatten.length ≤ 1000 := by
  have key : ∀ l : List (List Item), (∀ its ∈ l, its.length ≤ 1) → l.flatten.length ≤ l.length := by
    intro l
    induction l with
    | nil => intro _; exact Nat.le_refl _
    | cons a r ih =>
      intro h
      rw [List.flatten_cons, List.length_append, List.length_cons]
      have h1 := h a List.mem_cons_self
      have h2 := ih fun its hm => h its (List.mem_cons_of_mem _ hm)
      omega
  have h1 := key told g.one
  have h2 := g.nl
  have h3 := g.n5
  omega
theorem GoodT.gf (g : GoodT rows cs told) {it : Item} (h : it ∈ told.flatten) : GoodI rows.length it := by
  obtain ⟨its, h1, h2⟩ := List.mem_flatten.mp h
  exact g.gi its h1 it h2
end
section
variable {P : Program} {w : World} {K : PySem.W.Frag} {mg : Str → Option Value} {base : Heap} {C : Addr}
def R_level_fault : List W → W → Prop := fun ws v => ∃ (rows cs : List Int) (told : List (List Item)), ws = [.d (.play rows), .d (.tup (cs.map D.int)), .d (.tup (told.map eT))] ∧ GoodT rows cs told ∧ v = .d .non
theorem ok_level_fault (T : Tx K mg C) : Okf P w K mg base 3 "level_fault" (spD C K R_level_fault) := by
  refine okD T.a_level_fault sc_level_fault bn_level_fault (fun ws v ⟨_, _, _, h, _⟩ => h ▸ rfl) fun f cdv A outer s H E hr ws v h => ?_
  have nd := sc_level_fault.nd
  obtain ⟨rows, cs, told, rfl, g, rfl⟩ := h
  have hfl := g.fl
  have ln : ∀ {it : Item}, it ∈ told.flatten → it.length ≤ 1000 := fun h => by
    have := (g.gf h).ln
    omega
  refine ds_for (t := true) (ws := enumD (told.map eT)) (di_enumT (dv 2 rfl rfl) T.f_enumerate) (pg_tup rfl (pgs_cons (pg_name nd rfl (by first | exact .inl rfl | exact .inr rfl)) (pgs_cons (pg_name nd rfl (by first | exact .inl rfl | exact .inr rfl)) pgs_nil))) (g := (gTup K 2 (gCons (gName 4) (gCons (gName 3) gNil)))) (fun t δ' => ∃ a b c, δ' = [some (.d (.play rows)), some (.d (.tup (cs.map D.int))), some (.d (.tup (told.map eT))), a, b, c]) ⟨none, none, none, rfl⟩ (fun t w' δ' hw hI => ?_) fun δ' hI => ?_
  · obtain ⟨a, b, c, rfl⟩ := hI
    obtain ⟨its, hk, rfl⟩ := enumD_mapAt hw
    refine ⟨_, dgm_tup2 (x := nI t), ?_⟩
    refine ds_skip (Dt.is (dt_not (dt_val (x := true) (de_allT (dl_lcN (t := true) (own := [("item", 5)]) (g := gName 5) (xs := its) (enc := fun i => .d (eI i)) (fun _ => .bl true) (blkOk_by (N := n_level_fault) (sc := defScope (topS 105)) (by decide +kernel)) (fun _ _ _ _ _ => pg_name nd rfl (by first | exact .inl rfl | exact .inr rfl)) (di_tupM (dv 3 rfl rfl)) nd (by have := g.one its (List.mem_of_getElem? hk); omega) fun i hi' => ⟨_, dg_name, fun _ _ _ _ _ => De.is (de_cmp dr_inT (dv 4 rfl rfl) (de_cal (ok_hands_of T) hr (da_cons ((dv 5 rfl rfl)) da_nil) ⟨i, rfl, ln (List.mem_flatten.mpr ⟨its, List.mem_of_getElem? hk, hi'⟩), rfl⟩)) (by have z := g.own t its hk i hi'; simp [z])⟩) T.f_all))) rfl) (ds_nil ⟨_, _, _, rfl⟩)
  · obtain ⟨a, b, c, rfl⟩ := hI
    obtain ⟨f0, fd, ps, hm, _⟩ := ok_is_within_lot (P := P) (w := w) (base := base) T
    refine ds_set (i := 3) (w := .l (told.flatten.map eI)) (de_cal (ok_flat T) hr (da_cons ((dv 2 rfl rfl)) da_nil) ⟨told, rfl, hfl, rfl⟩) ?_ nd
    refine ds_skip (dt_val (de_anyF (dl_lcN (t := false) (own := [("item", 5)]) (g := gName 5) (xs := told.flatten) (enc := fun i => .d (eI i)) (fun _ => .bl false) (blkOk_by (N := n_level_fault) (sc := defScope (topS 105)) (by decide +kernel)) (fun _ _ _ _ _ => pg_name nd rfl (by first | exact .inl rfl | exact .inr rfl)) (di_listM (dv 3 rfl rfl)) nd (by omega) fun i hi' => ⟨_, dg_name, fun _ _ _ _ _ => de_cal (ok_is_strange T) hr (da_cons ((dv 0 rfl rfl)) (da_cons ((dv 1 rfl rfl)) (da_cons ((dv 5 rfl rfl)) da_nil))) ⟨rows, cs, i, rfl, ln hi', fun p hp => ?_, rfl⟩⟩) T.f_any)) ?_
    · obtain ⟨its, h1, h2⟩ := List.mem_flatten.mp hi'
      obtain ⟨h3, h4⟩ := g.val its h1 i h2 p hp
      exact ⟨h3, (g.clt _ h3).1, h4⟩
    refine ds_skip (Dt.is (dt_not (dt_val (x := true) (de_cal (ok_are_chain T) hr (da_cons (De.is (w' := .l ((told.flatten.map hd).map fun l => .tup (l.map D.int))) (de_of_l (dl_lcN (t := false) (own := [("item", 5)]) (g := gName 5) (xs := told.flatten) (enc := fun i => .d (eI i)) (fun i => .tup ((hd i).map D.int)) (blkOk_by (N := n_level_fault) (sc := defScope (topS 105)) (by decide +kernel)) (fun _ _ _ _ _ => pg_name nd rfl (by first | exact .inl rfl | exact .inr rfl)) (di_listM (dv 3 rfl rfl)) nd (by omega) fun i hi' => ⟨_, dg_name, fun _ _ _ _ _ => de_cal (ok_hands_of T) hr (da_cons ((dv 5 rfl rfl)) da_nil) ⟨i, rfl, ln hi', rfl⟩⟩)) (by rw [List.map_map]; rfl)) (da_cons (de_gfn hm) da_nil)) ⟨told.flatten.map hd, f0, rfl, hm, by rw [List.length_map]; exact hfl, fun l hl => ?_, fun a ha b hb => ?_, rfl⟩))) rfl) ?_
    · obtain ⟨i, hi, rfl⟩ := List.mem_map.mp hl
      unfold hd
      rw [List.length_map]
      exact ln hi
    · obtain ⟨i, hi, rfl⟩ := List.mem_map.mp ha
      obtain ⟨j, hj, rfl⟩ := List.mem_map.mp hb
      exact g.chain i hi j hj
    refine ds_ret (de_ifF (dt_val (de_anyF (dl_lcN (t := false) (own := [("item", 5)]) (g := gName 5) (xs := told.flatten) (enc := fun i => .d (eI i)) (fun _ => .bl false) (blkOk_by (N := n_level_fault) (sc := defScope (topS 105)) (by decide +kernel)) (fun _ _ _ _ _ => pg_name nd rfl (by first | exact .inl rfl | exact .inr rfl)) (di_listM (dv 3 rfl rfl)) nd (by omega) fun i hi' => ⟨_, dg_name, fun _ _ _ _ _ => de_cal (ok_has_more T) hr (da_cons ((dv 2 rfl rfl)) (da_cons ((dv 5 rfl rfl)) da_nil)) ⟨told, i, rfl, ln hi', fun p hp => ?_, rfl⟩⟩) T.f_any)) de_non) rfl
    obtain ⟨⟨h0, h1⟩, _⟩ := (g.gf hi').lt p hp
    obtain ⟨k, hk⟩ := Int.eq_ofNat_of_zero_le h0
    have hkl : k < told.length := by
      have := g.nl
      omega
    have hm' := List.getElem_mem hkl
    have h1' := g.one _ hm'
    refine ⟨k, told[k], hk, List.getElem?_eq_getElem hkl, by omega, fun other ho => ⟨ln (List.mem_flatten.mpr ⟨_, hm', ho⟩), g.inner i hi' k ?_ _ (List.getElem?_eq_getElem hkl) other ho⟩⟩
    rw [← hk]
    exact List.mem_map.mpr ⟨p, hp, rfl⟩
def R_raw_fault : List W → W → Prop := R_level_fault
theorem ok_raw_fault (T : Tx K mg C) : Okf P w K mg base 4 "raw_fault" (spD C K R_raw_fault) := by
  refine okD T.a_raw_fault sc_raw_fault bn_raw_fault (fun ws v ⟨_, _, _, h, _⟩ => h ▸ rfl) fun f cdv A outer s H E hr ws v h => ?_
  have nd := sc_raw_fault.nd
  obtain ⟨rows, cs, told, rfl, g, rfl⟩ := h
  have hnl := g.nl
  have hn5 := g.n5
  refine ds_skip (dt_val (de_anyF (dl_lcN (t := true) (own := [("hand", 3), ("items", 4)]) (g := (gTup K 2 (gCons (gName 3) (gCons (gName 4) gNil)))) (xs := told.zipIdx) (enc := fun z => .d (.tup [.int (z.2 : Nat), eT z.1])) (fun _ => .bl false) (blkOk_by (N := n_raw_fault) (sc := defScope (topS 109)) (by decide +kernel)) (fun _ _ _ _ _ => pg_tup rfl (pgs_cons (pg_name nd rfl (by first | exact .inl rfl | exact .inr rfl)) (pgs_cons (pg_name nd rfl (by first | exact .inl rfl | exact .inr rfl)) pgs_nil))) (di_enumTM (dv 2 rfl rfl) T.f_enumerate) nd (by rw [List.length_zipIdx]; omega) fun z hz => ⟨_, dg_tup2, fun _ _ _ _ _ => De.is (de_and (de_cmp dr_gt (de_callB dc_lenT T.f_len (da_cons ((dv 4 rfl rfl)) da_nil)) de_int) fun _ => de_one (de_cmp dr_notInT (dv 3 rfl rfl) (dv 1 rfl rfl))) ?_⟩) T.f_any)) ?_
  · obtain ⟨its, k⟩ := z
    have hz := List.mem_zipIdx_iff_getElem?.mp hz
    have hz : told[k]? = some its := hz
    cases its with
    | nil => simp
    | cons a r =>
      have zz := g.came k _ hz (by simp)
      simp [zz]
  exact ds_skip (dt_cmp dr_noMan (de_kind ((dv 0 rfl rfl)) T.cls T.na_kind) (de_man T.manners)) (ds_ifT (dt_cmp dr_eqS (de_kind ((dv 0 rfl rfl)) T.cls T.na_kind) (de_gstr T.s_LEVELS)) (ds_ret (de_cal (ok_level_fault T) hr (da_cons ((dv 0 rfl rfl)) (da_cons ((dv 1 rfl rfl)) (da_cons ((dv 2 rfl rfl)) da_nil))) ⟨rows, cs, told, rfl, g, rfl⟩) rfl))
def R_fault : List W → W → Prop := R_level_fault
theorem ok_fault (T : Tx K mg C) : Okf P w K mg base 9 "fault" (spD C K R_fault) := by
  refine okD T.a_fault sc_fault bn_fault (fun ws v ⟨_, _, _, h, _⟩ => h ▸ rfl) fun f cdv A outer s H E hr ws v h => ?_
  have nd := sc_fault.nd
  obtain ⟨rows, cs, told, rfl, g, rfl⟩ := h
  refine ds_skip (Dt.is (dt_not (dt_val (x := true) (de_cal (ok_is_came T) hr (da_cons ((dv 0 rfl rfl)) (da_cons ((dv 1 rfl rfl)) da_nil)) ⟨rows, cs, rfl, g.clt, g.casc, g.cl, rfl⟩))) rfl) ?_
  refine ds_skip (Dt.is (dt_not (dt_val (x := true) (de_cal (ok_is_told T) hr (da_cons ((dv 0 rfl rfl)) (da_cons ((dv 2 rfl rfl)) da_nil)) ⟨rows, told, rfl, g.nl, g.n5, fun its h => ⟨g.one its h, g.gi its h⟩, rfl⟩))) rfl) ?_
  exact ds_ret (de_cal (ok_raw_fault T) hr (da_cons ((dv 0 rfl rfl)) (da_cons ((dv 1 rfl rfl)) (da_cons ((dv 2 rfl rfl)) da_nil))) ⟨rows, cs, told, rfl, g, rfl⟩) rfl
/-! ### inputs -/
def R_is_row_of (mg : Str → Option Value) : List W → W → Prop := fun ws v => ∃ (f : Addr) (rows : List Int), ws = [.d (.raw (.ref f)), .d (.tup (rows.map D.int))] ∧ mg "is_value" = some (.ref f) ∧ 1 ≤ rows.length ∧ rows.length ≤ 5 ∧ (∀ r ∈ rows, 0 ≤ r ∧ r ≤ 999) ∧ v = .d (.bl true)
theorem ok_is_row_of (T : Tx K mg C) : Okf P w K mg base 5 "is_row_of" (spD C K (R_is_row_of mg)) := by
  refine okD T.a_is_row_of sc_is_row_of bn_is_row_of (fun ws v ⟨_, _, h, _⟩ => h ▸ rfl) fun f cdv A outer s H E hr ws v h => ?_
  have nd := sc_is_row_of.nd
  obtain ⟨f0, rows, rfl, hm, h1, h5, hv, rfl⟩ := h
  obtain ⟨f1, fd, ps, hm1, hk, Fo, hb⟩ := ok_is_value (P := P) (w := w) (base := base) T
  rw [hm] at hm1
  cases hm1
  refine ds_ret (De.is (de_and (de_cal (ok_is_sized T) hr (da_cons ((dv 1 rfl rfl)) (da_cons (de_int) (da_cons (de_gint T.i_MOST_HANDS) da_nil))) ⟨_, _, _, rfl, rfl⟩) fun _ => de_one (de_allT (dl_lcN (t := true) (own := [("item", 2)]) (g := gName 2) (xs := rows) (enc := fun i => .d (.int i)) (fun _ => .bl true) (blkOk_by (N := n_is_row_of) (sc := defScope (topS 37)) (by decide +kernel)) (fun _ _ _ _ _ => pg_name nd rfl (by first | exact .inl rfl | exact .inr rfl)) (di_tupM (dv 1 rfl rfl)) nd (by omega) fun i hi => ⟨_, dg_name, fun _ _ _ _ _ => De.is (de_callL (i := 0) Fo hk hb hr rfl (da_cons ((dv 2 rfl rfl)) da_nil) ⟨i, rfl, rfl⟩) ?_⟩) T.f_all)) ?_) rfl
  · obtain ⟨h2, h3⟩ := hv i hi
    have h3' : i ≤ 1000 - 1 := by omega
    simp [h2, h3]
  · rw [List.length_map]
    have h1' : (1 : Int) ≤ (rows.length : Int) := by omega
    have h5' : (rows.length : Int) ≤ 5 := by omega
    simp [h1', h5']
def R_are_inputs : List W → W → Prop := fun ws v => ∃ (rows : List Int), ws = [.d (.str "levels"), .d (.tup (rows.map D.int))] ∧ 1 ≤ rows.length ∧ rows.length ≤ 5 ∧ (∀ r ∈ rows, 0 ≤ r ∧ r ≤ 999) ∧ v = .d (.bl true)
theorem ok_are_inputs (T : Tx K mg C) : Okf P w K mg base 6 "are_inputs" (spD C K R_are_inputs) := by
  refine okD T.a_are_inputs sc_are_inputs bn_are_inputs (fun ws v ⟨_, h, _⟩ => h ▸ rfl) fun f cdv A outer s H E hr ws v h => ?_
  have nd := sc_are_inputs.nd
  obtain ⟨rows, rfl, h1, h5, hv, rfl⟩ := h
  obtain ⟨f1, fd, ps, hm1, hk, Fo, hb⟩ := ok_is_value (P := P) (w := w) (base := base) T
  exact ds_skip (dt_cmp dr_noMan (dv 0 rfl rfl) (de_man T.manners)) (ds_ifT (dt_cmp dr_eqS (dv 0 rfl rfl) (de_gstr T.s_LEVELS)) (ds_ret (de_cal (ok_is_row_of T) hr (da_cons (de_gfn hm1) (da_cons ((dv 1 rfl rfl)) da_nil)) ⟨f1, rows, rfl, hm1, h1, h5, hv, rfl⟩) rfl))
end
end OP

set_option Elab.async false
set_option linter.all false
set_option maxRecDepth 100000
set_option maxHeartbeats 4000000
/-! OpD9: Play(..) -/
namespace OP
open PySem PySem.Spec PyProof.Rows L2
section
variable {C : Addr} {X : Cx} {δ : Dn} {rest : List Stmt} {e : Expr} {pos p : Pos}
theorem w_skip {c : Expr} {th : List Stmt} {D : Ends} {σ : L2.St} {H : Hp} (hc : Dt C X δ c false) (E : En X.K C H σ δ) (k : ∀ H1, Same H H1 → wSs X rest D σ H1) : wSs X (.If c th [] pos :: rest) D σ H :=
  wSs_cons ⟨_, ps_if pt_w pss_w pss_w, hc σ H _ E fun H1 s1 => iteF ⟨_, pss_nil, k H1 s1⟩⟩
end
theorem en_raw {K : PySem.W.Frag} {C : Addr} {H : Hp} {x r : Addr} {s : Str} : En K C H [some (.ref x), some (.str s), some (.ref r)] [some (.d (.raw (.ref x))), some (.d (.str s)), some (.d (.raw (.ref r)))] :=
  ⟨rfl, fun i w e => match i, e with
    | 0, e => by cases e; exact ⟨_, rfl, .raw _⟩
    | 1, e => by cases e; exact ⟨_, rfl, .str _⟩
    | 2, e => by cases e; exact ⟨_, rfl, .raw _⟩
    | n + 3, e => nomatch e⟩
section
variable {P : Program} {w : World} {K : PySem.W.Frag} {mg : Str → Option Value} {base : Heap} {C : Addr}
abbrev kindN : List Str := ["levels", "names", "near", "chain"]
def spInit (C : Addr) (K : PySem.W.Frag) : Sp := fun vs H Q _ => ∃ (x dx r : Addr) (rows : List Int), vs = [.ref x, .str "levels", .ref r] ∧ H x = some (.ins C dx []) ∧ SqT K H r (rows.map V.int) ∧ 1 ≤ rows.length ∧ rows.length ≤ 5 ∧ (∀ r ∈ rows, 0 ≤ r ∧ r ≤ 999) ∧
  ∀ H', (∀ a o, a ≠ x → H a = some o → H' a = some o) → H' x = some (.ins C dx [("kind", .str "levels"), ("inputs", .ref r), ("rows", .ref r)]) → Q .non H'
abbrev ix (P : Program) (w : World) (K : PySem.W.Frag) (mg : Str → Option Value) (base : Heap) (f : Addr) (cdv : Value) (A : Around) (outer : List Env) (s : Shared) (H : Hp) (E : XK) : Cx := (cxOf CX0 P w K mg base n_init "Play.__init__" (defScope (inClass (topS 39) 0)) f cdv A outer s H E).nox
theorem ok_init (T : Tx K mg C) {f : Addr} {fd : FuncData} (F : Fun K "__init__" "Play.__init__" (inClass (topS 39) 0) f fd) : FnOk P w K mg base CX0 7 f fd ["self", "kind", "inputs"] (spInit C K) := by
  refine F.ok sc_init (fun vs H Q E h => ?_) fun cdv A outer s H vs Q E hr h => ?_
  · obtain ⟨x, dx, r, rows, rfl, _⟩ := h
    rfl
  obtain ⟨x, dx, r, rows, rfl, hx, hq, h1, h5, hv, k⟩ := h
  have nd := sc_init.nd
  refine ⟨wSs (ix P w K mg base f cdv A outer s H E) (defBody (inClass (topS 39) 0)), pss_w, ?_⟩
  have E0 : En K C H (L2.start n_init [.ref x, .str "levels", .ref r]) [some (.d (.raw (.ref x))), some (.d (.str "levels")), some (.d (.tup (rows.map D.int)))] :=
    ⟨rfl, fun i w e => match i, e with
      | 0, e => by cases e; exact ⟨_, rfl, .raw _⟩
      | 1, e => by cases e; exact ⟨_, rfl, .str _⟩
      | 2, e => by cases e; exact ⟨_, rfl, .tup hq (Rps.ints rows)⟩
      | n + 3, e => nomatch e⟩
  refine w_skip (X := ix P w K mg base f cdv A outer s H E) (δ := [some (.d (.raw (.ref x))), some (.d (.str "levels")), some (.d (.tup (rows.map D.int)))]) (Dt.is (Dw.t (dw_or (dt_not (dt_val (x := true) (de_isi (k := true) (dv 1 rfl rfl) T.f_isinstance T.f_str bb_str))) fun _ => dw_or1 (dt_cmp (dr_notInS (ns := manN ++ kindN) (k := false) (by decide +kernel)) (dv 1 rfl rfl) (De.is (de_bin (dr_catT (xs := manN.map D.str) (ys := kindN.map D.str) (by decide)) (de_man T.manners) (de_tup (dd_cons (de_gstr T.s_LEVELS) (dd_cons (de_gstr T.s_NAMES) (dd_cons (de_gstr T.s_NEAR) (dd_cons (de_gstr T.s_CHAIN) dd_nil)))))) (by rw [List.map_append]))))) rfl) E0 fun H1 s1 => ?_
  refine w_skip (X := ix P w K mg base f cdv A outer s H E) (δ := [some (.d (.raw (.ref x))), some (.d (.str "levels")), some (.d (.tup (rows.map D.int)))]) (Dt.is (dt_not (dt_val (x := true) (de_cal (ok_are_inputs T) hr (da_cons ((dv 1 rfl rfl)) (da_cons ((dv 2 rfl rfl)) da_nil)) ⟨rows, rfl, h1, h5, hv, rfl⟩))) rfl) (E0.mono s1) fun H2 s2 => ?_
  have s12 := s1.trans s2
  have hx2 := s12 _ _ hx
  -- self.kind = kind
  refine wSs_cons ⟨_, ps_fld (pe_var (i := 0) rfl (.inl rfl) (by decide) (by decide)) (pe_var (i := 1) rfl (.inl rfl) (by decide) (by decide)) rfl, .str "levels", rfl, .ref x, rfl, x, C, dx, [], rfl, hx2, T.cls, T.na_kind, by decide, ?_⟩
  refine wSs_cons ⟨_, ps_fld (pe_var (i := 0) rfl (.inl rfl) (by decide) (by decide)) (pe_var (i := 2) rfl (.inl rfl) (by decide) (by decide)) rfl, .ref r, rfl, .ref x, rfl, x, C, dx, [("kind", .str "levels")], rfl, upd_same, T.cls, T.na_inputs, by decide, ?_⟩
  refine wSs_cons ⟨_, ps_fld (pe_var (i := 0) rfl (.inl rfl) (by decide) (by decide)) pe_w rfl, ?_⟩
  have hd : De C (ix P w K mg base f cdv A outer s H E) [some (.d (.raw (.ref x))), some (.d (.str "levels")), some (.d (.raw (.ref r)))] (match (defBody (inClass (topS 39) 0)).getD 4 (.Pass ⟨0, 0, 0, 0⟩) with | .Assign _ e _ => e | _ => .Constant .none 0 ⟨0, 0, 0, 0⟩) (.d (.raw (.ref r))) :=
    de_ifF (Dt.is (dt_cmp dr_eqS (dv 1 rfl rfl) (de_gstr T.s_NEAR)) (by decide)) (dv 2 rfl rfl)
  refine hd _ _ _ en_raw fun v H3 s3 r3 => ?_
  have ev : v = .ref r := by cases r3; rfl
  subst ev
  refine ⟨.ref x, rfl, x, C, dx, [("kind", .str "levels"), ("inputs", .ref r)], rfl, s3 _ _ upd_same, T.cls, T.na_rows, (show 2 < 1000 by decide), ?_⟩
  refine ⟨_, pss_nil, ?_⟩
  refine k _ (fun a o ha e => ?_) upd_same
  rw [upd_ne ha]
  refine s3 _ _ ?_
  rw [upd_ne ha, upd_ne ha]
  exact s12 _ _ e
theorem de_mk (T : Tx K mg C) {X : Cx} (hP : X.prog = P) (hW : X.w = w) (hK : X.K = K) (hM : X.mg = mg) {δ : Dn} {a b : Expr} {pos p : Pos} {k : Nat} {rows : List Int} (hr : Room k X.A) (ha : Da C X δ [a, b] [.d (.str "levels"), .d (.tup (rows.map D.int))]) (h1 : 1 ≤ rows.length) (h5 : rows.length ≤ 5) (hv : ∀ r ∈ rows, 0 ≤ r ∧ r ≤ 999) (hk : 8 ≤ k := by decide) (hg : Gl X "Play" := by rfl)
    (he : starEach [a, b] X.env = (false, eval a X.env) :: starEach [b] X.env := by rfl) (hpl : (backTo pos (starEach [b] X.env)).any (·.1) = false := by rfl) : De C X δ (.Call (.Name "Play" p) [a, b] [] pos) (.d (.play rows)) := fun σ H Q E q => by
  subst hP hW hK hM
  obtain ⟨f, fd, M, F⟩ := T.mkr
  refine ⟨_, pe_make M (ok_init (base := X.base) T F) (hr.mono hk) hg T.g_Play (F.binds fun _ _ _ _ _ _ us hl => match us, hl with | [_, _, _], _ => rfl) .nil pass0 pa_w (by decide) he hpl, ha σ H _ E fun vs H1 s1 r1 => ?_⟩
  cases r1 with
  | cons ra t =>
    cases t with
    | cons rb t =>
      cases t
      cases ra
      cases rb with
      | @tup r us _ hs rs =>
        have e := rs.int_eq
        subst e
        intro x dx hx hdx hne
        have sx : Same H1 (upd (upd H1 dx (.own x)) x (.ins C dx [])) := (same_new hdx).trans (same_new (by rw [upd_ne (Ne.symm hne)]; exact hx))
        refine ⟨x, dx, r, rows, rfl, upd_same, Kt.tup (.of sx) hs, h1, h5, hv, fun H' h hi => ⟨rfl, ?_⟩⟩
        have s2 : Same H1 H' := fun a o e => by
          have na : a ≠ x := fun z => by
            subst z
            rw [hx] at e
            cases e
          exact h a o na (sx a o e)
        exact q _ H' (s1.trans s2) (.play hi (Kt.tup (.of s2) hs))
end
end OP

set_option Elab.async false
set_option linter.all false
set_option maxRecDepth 100000
set_option maxHeartbeats 4000000
/-! OpL1: the law's own machine -/
namespace OP
open PySem PySem.Spec PyProof.Rows L2
section
variable {C : Addr} {X : Cx} {o : Option Nat} {δ : Dn} {rest : List Stmt} {O : Ot} {a b e tg : Expr} {pos p q p2 p3 : Pos}
/-- a, b = e, f with plain local names -/
theorem ds_par {i j : Nat} {x y : Str} {w1 w2 : W} {px py pt : Pos} {kt k2 : Nat} {pt2 : Pos} (ha : Da C X δ [a, b] [w1, w2]) (k : Ds C X o ((δ.set i (some w1)).set j (some w2)) rest O) (hN : X.N.Nodup) (hi : X.N[i]? = some x := by rfl) (hj : X.N[j]? = some y := by rfl) (hij : i ≠ j := by decide)
    (hx : X.env.scope.names.lookup x = some .local := by rfl) (hy : X.env.scope.names.lookup y = some .local := by rfl) (f1 : Fit o i w1 := by first | exact fit_none | exact fit_some) (f2 : Fit o j w2 := by first | exact fit_none | exact fit_some) (hc : X.calm = true := by rfl)
    (hw : swappedStores [.Tuple [.Name x px, .Name y py] kt pt] (.Tuple [a, b] k2 pt2) X.env = pure (some [x, y]) := by rfl)
    (hs : swapsWithSole [.Tuple [.Name x px, .Name y py] kt pt] (.Tuple [a, b] k2 pt2) pos.line X.env = pure false := by rfl) :
    Ds C X o δ (.Assign [.Tuple [.Name x px, .Name y py] kt pt] (.Tuple [a, b] k2 pt2) pos :: rest) O := fun H0 σ H D E kn kr => by
  refine wSs_cons ⟨_, ps_par hc hN hi hj hij hx hy pa_w hw hs, ha σ H _ E.en fun vs H1 s1 r1 => ?_⟩
  cases r1 with
  | cons ra t =>
    cases t with
    | cons rb t =>
      cases t
      exact ⟨_, _, rfl, k H0 _ H1 D (((E.mono s1).set ra f1).set rb f2) kn kr⟩
theorem dr_eqN : DR C X (compareOp .Eq) (.d .non) (.d .non) (.d (.bl true)) := ⟨_, op_eq, fun H x y Q rx ry q => by
    cases rx
    cases ry
    refine ⟨rfl, ?_⟩
    have e : decide (V.non = V.non) = true := by simp
    rw [e]
    exact q _ H (Same.refl H) (.bl _)⟩
end
theorem Dw.is {C : Addr} {X : Cx} {δ : Dn} {e : Expr} {k k' : Bool} (h : Dw C X δ e k) (q : k = k') : Dw C X δ e k' := q ▸ h
/-! ### told is due -/
def Pl : Nat → D → Prop
  | _, .non => True
  | _, .bl _ => True
  | _, .int _ => True
  | _, .str _ => True
  | n + 1, .tup ds => ds.length ≤ 50000 ∧ ∀ d ∈ ds, Pl n d
  | _, _ => False
def PW : Nat → W → Prop
  | n, .d y => Pl n y
  | n + 1, .l ys => ys.length ≤ 50000 ∧ ∀ d ∈ ys, Pl n d
  | _, _ => False
def R_law_is (d : Nat) : List W → W → Prop := fun ws v => ∃ x, ws = [x, x] ∧ PW d x ∧ v = .d (.bl true)
section
variable {P : Program} {w : World} {K : PySem.W.Frag} {mg : Str → Option Value} {base : Heap} {C : Addr}
theorem ok_law_is1 (T : Tx K mg C) (d : Nat) (ih : ∀ e, d = e + 1 → Okf P w K mg base (e + 1) "_law_is" (spD C K (R_law_is e))) : Okf P w K mg base (d + 1) "_law_is" (spD C K (R_law_is d)) := by
  refine okD T.a__law_is sc__law_is bn__law_is (fun ws v ⟨_, h, _⟩ => h ▸ rfl) fun f cdv A outer s H E hr ws v h => ?_
  have nd := sc__law_is.nd
  obtain ⟨x, rfl, hx, rfl⟩ := h
  cases x with
  | ll xss => cases d <;> exact hx.elim
  | hand ns i lf sd k => cases d <;> exact hx.elim
  | l ys =>
    cases d with
    | zero => exact hx.elim
    | succ d =>
      obtain ⟨hz, hd⟩ := hx
      refine ds_ifT (dt_val (de_isi2 (k := true) (dv 1 rfl rfl) T.f_isinstance T.f_tuple T.f_list bb_tuple bb_list)) ?_
      refine ds_skip (Dt.is (Dw.t (dw_or (y := false) (dt_cmp dr_neB (de_isi (k := false) (dv 0 rfl rfl) T.f_isinstance T.f_tuple bb_tuple) (de_isi (k := false) (dv 1 rfl rfl) T.f_isinstance T.f_tuple bb_tuple)) fun _ => Dw.is (dw_or1 (dt_cmp dr_neB (de_isi (k := true) (dv 0 rfl rfl) T.f_isinstance T.f_list bb_list) (de_isi (k := true) (dv 1 rfl rfl) T.f_isinstance T.f_list bb_list))) (by simp))) (by simp)) ?_
      refine ds_ret (De.is (de_and (de_cmp dr_eqI (de_callB dc_lenL T.f_len (da_cons ((dv 0 rfl rfl)) da_nil)) (de_callB dc_lenL T.f_len (da_cons ((dv 1 rfl rfl)) da_nil))) fun _ => de_one (de_allT (dl_lcN (t := true) (own := [("_law_k", 2)]) (g := gName 2) (xs := List.range ys.length) (enc := fun i => .d (nI i)) (fun _ => .bl true) (blkOk_by (N := n__law_is) (sc := defScope (topS 116)) (by decide +kernel)) (fun _ _ _ _ _ => pg_name nd rfl (by first | exact .inl rfl | exact .inr rfl)) (di_range (n := ys.length) (by omega) (de_callB dc_lenL T.f_len (da_cons ((dv 1 rfl rfl)) da_nil)) T.f_range) nd (by simp; omega) fun i hi => ⟨_, dg_name, fun _ _ _ _ _ => ?_⟩) T.f_all)) (by simp)) rfl
      have hi := List.mem_range.mp hi
      have hix : atI ys ((i : Nat) : Int) = some ys[i] := atI_nat (List.getElem?_eq_getElem hi)
      exact de_cal (ih d rfl) hr (da_cons (de_ix (dx_l hix) (dv 0 rfl rfl) (dv 2 rfl rfl)) (da_cons (de_ix (dx_l hix) (dv 1 rfl rfl) (dv 2 rfl rfl)) da_nil)) ⟨_, rfl, hd _ (List.getElem_mem hi), rfl⟩ (Nat.le_refl _)
  | d y =>
    cases y with
    | tup ys =>
      cases d with
      | zero => exact hx.elim
      | succ d =>
        obtain ⟨hz, hd⟩ := hx
        refine ds_ifT (dt_val (de_isi2 (k := true) (dv 1 rfl rfl) T.f_isinstance T.f_tuple T.f_list bb_tuple bb_list)) ?_
        refine ds_skip (Dt.is (Dw.t (dw_or (y := false) (dt_cmp dr_neB (de_isi (k := true) (dv 0 rfl rfl) T.f_isinstance T.f_tuple bb_tuple) (de_isi (k := true) (dv 1 rfl rfl) T.f_isinstance T.f_tuple bb_tuple)) fun _ => Dw.is (dw_or1 (dt_cmp dr_neB (de_isi (k := false) (dv 0 rfl rfl) T.f_isinstance T.f_list bb_list) (de_isi (k := false) (dv 1 rfl rfl) T.f_isinstance T.f_list bb_list))) (by simp))) (by simp)) ?_
        refine ds_ret (De.is (de_and (de_cmp dr_eqI (de_callB dc_lenT T.f_len (da_cons ((dv 0 rfl rfl)) da_nil)) (de_callB dc_lenT T.f_len (da_cons ((dv 1 rfl rfl)) da_nil))) fun _ => de_one (de_allT (dl_lcN (t := true) (own := [("_law_k", 2)]) (g := gName 2) (xs := List.range ys.length) (enc := fun i => .d (nI i)) (fun _ => .bl true) (blkOk_by (N := n__law_is) (sc := defScope (topS 116)) (by decide +kernel)) (fun _ _ _ _ _ => pg_name nd rfl (by first | exact .inl rfl | exact .inr rfl)) (di_range (n := ys.length) (by omega) (de_callB dc_lenT T.f_len (da_cons ((dv 1 rfl rfl)) da_nil)) T.f_range) nd (by simp; omega) fun i hi => ⟨_, dg_name, fun _ _ _ _ _ => ?_⟩) T.f_all)) (by simp)) rfl
        have hi := List.mem_range.mp hi
        have hix : atI ys ((i : Nat) : Int) = some ys[i] := atI_nat (List.getElem?_eq_getElem hi)
        exact de_cal (ih d rfl) hr (da_cons (de_ix (dx_t hix) (dv 0 rfl rfl) (dv 2 rfl rfl)) (da_cons (de_ix (dx_t hix) (dv 1 rfl rfl) (dv 2 rfl rfl)) da_nil)) ⟨_, rfl, hd _ (List.getElem_mem hi), rfl⟩ (Nat.le_refl _)
    | play rows => cases d <;> exact hx.elim
    | raw u => cases d <;> exact hx.elim
    | non =>
      refine ds_skip (dt_val (de_isi2 (k := false) (dv 1 rfl rfl) T.f_isinstance T.f_tuple T.f_list bb_tuple bb_list)) ?_
      refine ds_skip (dt_val (de_isi (k := false) (dv 1 rfl rfl) T.f_isinstance T.f_dict bb_dict)) ?_
      exact ds_ret (De.is (de_and (de_cmp dr_eqB (de_isi (k := false) (dv 0 rfl rfl) T.f_isinstance T.f_bool bb_bool) (de_isi (k := false) (dv 1 rfl rfl) T.f_isinstance T.f_bool bb_bool)) fun _ => de_one (de_cmp dr_eqN (dv 0 rfl rfl) (dv 1 rfl rfl))) (by simp)) rfl
    | bl b =>
      refine ds_skip (dt_val (de_isi2 (k := false) (dv 1 rfl rfl) T.f_isinstance T.f_tuple T.f_list bb_tuple bb_list)) ?_
      refine ds_skip (dt_val (de_isi (k := false) (dv 1 rfl rfl) T.f_isinstance T.f_dict bb_dict)) ?_
      exact ds_ret (De.is (de_and (de_cmp dr_eqB (de_isi (k := true) (dv 0 rfl rfl) T.f_isinstance T.f_bool bb_bool) (de_isi (k := true) (dv 1 rfl rfl) T.f_isinstance T.f_bool bb_bool)) fun _ => de_one (de_cmp dr_eqB (dv 0 rfl rfl) (dv 1 rfl rfl))) (by simp)) rfl
    | int i =>
      refine ds_skip (dt_val (de_isi2 (k := false) (dv 1 rfl rfl) T.f_isinstance T.f_tuple T.f_list bb_tuple bb_list)) ?_
      refine ds_skip (dt_val (de_isi (k := false) (dv 1 rfl rfl) T.f_isinstance T.f_dict bb_dict)) ?_
      exact ds_ret (De.is (de_and (de_cmp dr_eqB (de_isi (k := false) (dv 0 rfl rfl) T.f_isinstance T.f_bool bb_bool) (de_isi (k := false) (dv 1 rfl rfl) T.f_isinstance T.f_bool bb_bool)) fun _ => de_one (de_cmp dr_eqI (dv 0 rfl rfl) (dv 1 rfl rfl))) (by simp)) rfl
    | str i =>
      refine ds_skip (dt_val (de_isi2 (k := false) (dv 1 rfl rfl) T.f_isinstance T.f_tuple T.f_list bb_tuple bb_list)) ?_
      refine ds_skip (dt_val (de_isi (k := false) (dv 1 rfl rfl) T.f_isinstance T.f_dict bb_dict)) ?_
      exact ds_ret (De.is (de_and (de_cmp dr_eqB (de_isi (k := false) (dv 0 rfl rfl) T.f_isinstance T.f_bool bb_bool) (de_isi (k := false) (dv 1 rfl rfl) T.f_isinstance T.f_bool bb_bool)) fun _ => de_one (de_cmp dr_eqS (dv 0 rfl rfl) (dv 1 rfl rfl))) (by simp)) rfl
theorem ok_law_is (T : Tx K mg C) : ∀ d, Okf P w K mg base (d + 1) "_law_is" (spD C K (R_law_is d))
  | 0 => ok_law_is1 T 0 fun e z => nomatch z
  | d + 1 => ok_law_is1 T (d + 1) fun e z => by
    cases z
    exact ok_law_is T d
/-! ### standings -/
def R_law_begin : List W → W → Prop := fun ws v => ∃ (rows : List Int), ws = [.d (.str "levels"), .d (.tup (rows.map D.int))] ∧ 1 ≤ rows.length ∧ rows.length ≤ 5 ∧ v = .d (eSt (begin0 rows.length))
theorem ok__law_begin (T : Tx K mg C) : Okf P w K mg base 1 "_law_begin" (spD C K R_law_begin) := by
  refine okD T.a__law_begin sc__law_begin bn__law_begin (fun ws v ⟨_, h, _⟩ => h ▸ rfl) fun f cdv A outer s H E hr ws v h => ?_
  have nd := sc__law_begin.nd
  obtain ⟨rows, rfl, h1, h5, rfl⟩ := h
  refine ds_set (i := 2) (De.is (w' := .d (.int (rows.length : Nat))) (de_callB dc_lenT T.f_len (da_cons ((dv 1 rfl rfl)) da_nil)) (by rw [List.length_map])) ?_ nd
  refine ds_par (i := 3) (j := 4) (w1 := .l (List.replicate rows.length .non)) (w2 := .l (List.replicate rows.length (.tup [.bl false]))) (da_cons (de_of_l (dl_repL (dl_lst (dd_cons (de_non) dd_nil)) (dv 2 rfl rfl) (by omega))) (da_cons (de_of_l (dl_repL (dl_lst (dd_cons ((de_tup (dd_cons (de_bl) dd_nil))) dd_nil)) (dv 2 rfl rfl) (by omega))) da_nil)) ?_ nd
  refine ds_ifT (dt_cmp dr_eqS (dv 0 rfl rfl) de_str) ?_
  refine ds_set (i := 4) (w := .l (List.replicate rows.length (eS (some ((rows.length : Int) + 1, none))))) (de_of_l (dl_repL (dl_lst (dd_cons ((de_tup (dd_cons (de_bin dr_add (dv 2 rfl rfl) de_int) (dd_cons (de_non) dd_nil)))) dd_nil)) (dv 2 rfl rfl) (by omega))) (ds_nil ?_) nd
  refine ds_ret (De.is (de_tup (dd_cons ((de_callTy dc_tupL T.f_tuple (da_cons ((dv 3 rfl rfl)) da_nil))) (dd_cons ((de_callTy dc_tupL T.f_tuple (da_cons ((dv 4 rfl rfl)) da_nil))) (dd_cons (de_bin (dr_repT h1 (by omega)) (de_tup (dd_cons ((de_tup dd_nil)) dd_nil)) (dv 2 rfl rfl)) dd_nil)))) ?_) rfl
  rw [eSt_begin]
def R_law_next : List W → W → Prop := fun ws v => ∃ l o, ws = [.d (.str "levels"), .d (eS (some (l, o)))] ∧ v = .d (nextD o)
theorem ok__law_next (T : Tx K mg C) : Okf P w K mg base 1 "_law_next" (spD C K R_law_next) := by
  refine okD T.a__law_next sc__law_next bn__law_next (fun ws v ⟨_, _, h, _⟩ => h ▸ rfl) fun f cdv A outer s H E hr ws v h => ?_
  have nd := sc__law_next.nd
  obtain ⟨l, o, rfl, rfl⟩ := h
  refine ds_ifT (dt_cmp dr_eqS (dv 0 rfl rfl) de_str) ?_
  cases o with
  | none => exact ds_ret (de_ifT (dt_cmp dr_isN (de_ix (dx_t rfl) (dv 1 rfl rfl) de_int) de_non) (de_tup (dd_cons (de_str) dd_nil))) rfl
  | some now => exact ds_ret (De.is (de_ifF (dt_cmp dr_isN (de_ix (dx_t rfl) (dv 1 rfl rfl) de_int) de_non) (de_tup (dd_cons (de_str) (dd_cons ((de_callB dc_lenT T.f_len (da_cons (de_ix (dx_t rfl) (dv 1 rfl rfl) de_int) da_nil))) dd_nil)))) (by simp [nextD])) rfl
theorem zipIdx_range {α : Type} [Inhabited α] (xs : List α) (d : α) : xs.zipIdx = (List.range xs.length).map fun i => (xs.getD i d, i) := by
  refine List.ext_getElem? fun i => ?_
  rw [List.getElem?_zipIdx, List.getElem?_map]
  by_cases h : i < xs.length
  · rw [List.getElem?_range h, List.getElem?_eq_getElem h]
    simp [List.getD_eq_getElem?_getD, List.getElem?_eq_getElem h]
  · have h2 : xs[i]? = none := List.getElem?_eq_none (by omega)
    have h3 : (List.range xs.length)[i]? = none := List.getElem?_eq_none (by rw [List.length_range]; omega)
    rw [h2, h3]
    rfl
theorem below_range (l : Int) (xs : List Cell) : ((List.range xs.length).filter fun i => isBelow l (xs.getD i none)).map (fun i => eP ((i : Nat), valC (xs.getD i none))) = (below l xs).map eP := by
  unfold below
  rw [zipIdx_range xs none, List.filter_map, List.map_map, List.map_map]
  rfl
theorem left_range (s : St) : ((List.range s.states.length).filter fun i => (s.states.getD i none).isSome).map nI = (left s).map nI := by
  unfold left
  rw [zipIdx_range s.states none, List.filter_map, List.map_map, List.map_map]
  rfl
def R_law_level : List W → W → Prop := fun ws v => ∃ (rows : List Int) (h : Nat) (cells : List Cell) (st : Int × Option (List Cell)), ws = [.d (.tup (rows.map D.int)), .d (.tup (cells.map eC)), .d (nI h), .d (eS (some st))] ∧ h < rows.length ∧ cells.length ≤ 1000 ∧ (∀ now, st.2 = some now → now.length < cells.length) ∧ v = .d (eA (after rows h cells st))
theorem ok__law_level (T : Tx K mg C) : Okf P w K mg base 1 "_law_level" (spD C K R_law_level) := by
  refine okD T.a__law_level sc__law_level bn__law_level (fun ws v ⟨_, _, _, _, h, _⟩ => h ▸ rfl) fun f cdv A outer s H E hr ws v h => ?_
  have nd := sc__law_level.nd
  obtain ⟨rows, h, cells, ⟨l, o⟩, rfl, hh, hz, hnow, rfl⟩ := h
  refine ds_un2 (i := 6) (j := 4) (dv 3 rfl rfl) ?_ nd
  cases o with
  | none =>
    refine ds_ifT (dt_cmp (dr_isN (nr_eN _)) (dv 4 rfl rfl) de_non) (ds_ret (w := .d (eA (after rows h cells (l, none)))) (de_tup (dd_cons ((de_tup (dd_cons (de_bin dr_sub (dv 6 rfl rfl) de_int) (dd_cons (de_ix (dx_t (atI_map D.int ?_)) (dv 0 rfl rfl) (dv 2 rfl rfl)) dd_nil)))) (dd_cons ((de_tup (dd_cons (de_bin dr_sub (dv 6 rfl rfl) de_int) (dd_cons ((de_tup dd_nil)) dd_nil)))) (dd_cons (de_non) dd_nil)))) rfl)
    rw [List.getD_eq_getElem?_getD, List.getElem?_eq_getElem hh]
    rfl
  | some now =>
    have hn := hnow now rfl
    refine ds_skip (dt_cmp (dr_isN (nr_eN _)) (dv 4 rfl rfl) de_non) ?_
    generalize hlk : now ++ [cells.getD now.length none] = looked
    have hc : cells[now.length]? = some (cells.getD now.length none) := by
      rw [List.getD_eq_getElem?_getD, List.getElem?_eq_getElem hn]
      rfl
    have hll : looked.length = now.length + 1 := by rw [← hlk, List.length_append]; rfl
    have hix : atI (cells.map eC) (((now.map eC).length : Nat) : Int) = some (eC (cells.getD now.length none)) := by
      rw [List.length_map]
      exact atI_map eC hc
    refine ds_set (i := 4) (De.is (w' := .d (.tup (looked.map eC))) (de_bin (dr_catT (by simp; omega)) (dv 4 rfl rfl) (de_tup (dd_cons (de_ix (dx_t hix) (dv 1 rfl rfl) (de_callB dc_lenT T.f_len (da_cons ((dv 4 rfl rfl)) da_nil))) dd_nil))) (by rw [← hlk, List.map_append]; rfl)) ?_ nd
    refine ds_if (k := decide (looked.length < cells.length)) (Dt.is (dt_cmp dr_lt (de_callB dc_lenT T.f_len (da_cons ((dv 4 rfl rfl)) da_nil)) (de_callB dc_lenT T.f_len (da_cons ((dv 1 rfl rfl)) da_nil))) (by simp)) (fun hk => ?_) fun hk => ?_
    · have hk := of_decide_eq_true hk
      refine ds_ret (de_tup (dd_cons (de_non) (dd_cons ((de_tup (dd_cons ((dv 6 rfl rfl)) (dd_cons ((dv 4 rfl rfl)) dd_nil)))) (dd_cons (de_non) dd_nil)))) ?_
      simp only [after, hlk, if_pos hk]
      rfl
    · have hk := of_decide_eq_false hk
      refine ds_nil ?_
      refine ds_setA (i := 5) (own := [("_law_one", 7)]) (g := gName 7) (xs := List.range looked.length) (enc := fun i => .d (nI i)) (fun i => isBelow l (looked.getD i none)) (fun i => eP ((i : Nat), valC (looked.getD i none))) rfl (blkOk_by (N := n__law_level) (sc := defScope (topS 120)) (by decide +kernel))
        (fun _ _ _ _ _ => pg_name nd rfl (by first | exact .inl rfl | exact .inr rfl)) (di_range (n := looked.length) (by omega) (De.is (de_callB dc_lenT T.f_len (da_cons ((dv 4 rfl rfl)) da_nil)) (by rw [List.length_map])) T.f_range) nd (by rw [List.length_range]; omega) (fun i hi => ⟨_, dg_name, fun _ _ _ _ _ => ?_, fun hp _ _ _ _ _ => ?_⟩) ?_
      · have hi := List.mem_range.mp hi
        have hix : atI (looked.map eC) ((i : Nat) : Int) = some (eC (looked.getD i none)) := atI_map eC (by rw [List.getD_eq_getElem?_getD, List.getElem?_eq_getElem hi]; rfl)
        cases hcc : looked.getD i none with
        | none =>
          rw [hcc] at hix
          exact dts_one (Dt.is (Dw.t (dw_and (y := false) (dt_cmp (dr_notN (nr_eC none)) (de_ix (dx_t hix) (dv 4 rfl rfl) (dv 7 rfl rfl)) de_non) fun z => nomatch z)) rfl)
        | some c =>
          rw [hcc] at hix
          refine dts_one (Dt.is (Dw.t (dw_and (dt_cmp (dr_notN (nr_eC (some c))) (de_ix (dx_t hix) (dv 4 rfl rfl) (dv 7 rfl rfl)) de_non) fun _ => dw_and1 (dt_not (dt_cmp dr_gt (de_ix (dx_t (d := .int c.1) rfl) (de_ix (dx_t hix) (dv 4 rfl rfl) (dv 7 rfl rfl)) de_int) (dv 6 rfl rfl))))) ?_)
          simp [isBelow, isNon, eC]
          rw [← decide_not]
          exact decide_eq_decide.mpr (by omega)
      · have hi := List.mem_range.mp hi
        have hix : atI (looked.map eC) ((i : Nat) : Int) = some (eC (looked.getD i none)) := atI_map eC (by rw [List.getD_eq_getElem?_getD, List.getElem?_eq_getElem hi]; rfl)
        cases hcc : looked.getD i none with
        | none => rw [hcc] at hp; cases hp
        | some c =>
          rw [hcc] at hix
          exact (de_tup (dd_cons ((dv 7 rfl rfl)) (dd_cons ((de_ix (dx_t (d := .int c.2) rfl) (de_ix (dx_t hix) (dv 4 rfl rfl) (dv 7 rfl rfl)) de_int)) dd_nil)))
      rw [below_range]
      refine ds_ret (w := .d (eA (after rows h cells (l, some now)))) (de_if (k := decide (l ≤ ((below l looked).length : Int))) (Dt.is (dt_not (dt_cmp dr_lt (de_callB dc_lenL T.f_len (da_cons ((dv 5 rfl rfl)) da_nil)) (dv 6 rfl rfl))) ?_) (fun h2 => ?_) fun h2 => ?_) rfl
      · rw [List.length_map, ← decide_not]
        exact decide_eq_decide.mpr Int.not_lt
      · have h2 := of_decide_eq_true h2
        refine De.is (de_tup (dd_cons (de_non) (dd_cons (de_non) (dd_cons ((de_callTy dc_tupL T.f_tuple (da_cons ((dv 5 rfl rfl)) da_nil))) dd_nil)))) ?_
        simp only [after, hlk, if_neg hk, if_pos h2]
        rfl
      · have h2 := of_decide_eq_false h2
        refine De.is (de_tup (dd_cons (de_non) (dd_cons ((de_tup (dd_cons ((dv 6 rfl rfl)) (dd_cons (de_non) dd_nil)))) (dd_cons (de_non) dd_nil)))) ?_
        simp only [after, hlk, if_neg hk, if_neg h2]
        rfl
end
end OP

set_option Elab.async false
set_option linter.all false
set_option maxRecDepth 100000
set_option maxHeartbeats 4000000
/-! OpL2: the law's own steps and what it says of what is told -/
namespace OP
open PySem PySem.Spec PyProof.Rows L2
section
variable {C : Addr} {X : Cx} {o : Option Nat} {δ : Dn} {rest : List Stmt} {O : Ot} {a b e tg e1 e2 e3 e4 : Expr} {pos p q p2 p3 p4 p5 p6 p7 : Pos}
/-- xs[:n] + (x,) + xs[n + 1:] -/
theorem de_repl {xs : List D} {x : D} {n : Nat} {kk : Nat} (h1 : De C X δ e1 (.d (.tup xs))) (h2 : De C X δ e2 (.d (nI n))) (hx : De C X δ (.Tuple [e] kk p3) (.d (.tup [x]))) (h3 : De C X δ e3 (.d (.tup xs))) (h4 : De C X δ e4 (.d (.int ((n : Int) + 1)))) (hn : n < xs.length) (hz : xs.length ≤ 1000) :
    De C X δ (.BinOp (.BinOp (.Subscript e1 (.Slice none (some e2) none p) p2) .Add (.Tuple [e] kk p3) p4) .Add (.Subscript e3 (.Slice (some e4) none none p5) p6) p7) (.d (.tup (xs.set n x))) := by
  have c1 : cutD xs none (some (n : Int)) = xs.take n := cutD_upto (Nat.le_of_lt hn)
  have c2 : cutD xs (some ((n : Int) + 1)) none = xs.drop (n + 1) := cutD_from (n := n + 1) hn
  refine De.is (de_bin (dr_catT ?_) (de_bin (dr_catT ?_) (de_slT h1 do_none (do_some h2)) hx) (de_slT h3 (do_some h4) do_none)) ?_
  · rw [c1, c2]
    simp
    omega
  · rw [c1]
    simp
    omega
  · rw [c1, c2, set_cut x hn]
/-- name = [..] of new lists, the name a plain local -/
theorem ds_setLl {α : Type} {i : Nat} {x : Str} {t : Bool} {elt tg iter : Expr} {scope : Scope} {own : List (Str × Nat)} {g : TG} {xs : List α} {enc : α → W} {py : Pos} (f : α → List D) (hy : X.N[i]? = some x) (ok : BlkOk X.N X.env.scope scope own)
    (hg : ∀ (s : Shared) (H : Hp) (Cc : Addr) (cl : List (Str × Addr)) (fp : List Addr), PG (X.blk s H scope (compEnvC scope cl Cc X.env) fp) tg g)
    (hi : Di t C X δ tg iter (xs.map enc)) (hN : X.N.Nodup) (hz : xs.length ≤ 50000)
    (h : ∀ x ∈ xs, ∃ δ', Dg X.K C g (enc x) (wipeD δ (own.map (·.2))) δ' (own.map (·.2)) ∧
      (∀ (s : Shared) (H : Hp) (Cc : Addr) (cl : List (Str × Addr)) (fp : List Addr), Dl C (X.blk s H scope (compEnvC scope cl Cc X.env) fp) δ' elt (f x)))
    (k : Ds C X none (δ.set i (some (.ll (xs.map f)))) rest O)
    (hyl : X.env.scope.names.lookup x = some .local := by rfl) (hsw : swapsWith (.ListComp elt [⟨tg, iter, [], 0⟩] scope pos) (some (.Name x py)) p.line X.env = pure true := by exact sw_true rfl rfl rfl (by decide +kernel))
    (hc : X.calm = true := by rfl) (hs : ∀ x, foldedSetIterable iter X.env x = pure x := by intro _; rfl) : Ds C X none δ (.Assign [.Name x py] (.ListComp elt [⟨tg, iter, [], 0⟩] scope pos) p :: rest) O := fun H0 σ H D E kn kr => by
  refine wSs_cons ⟨_, ps_setLc (own := own) hc hN hy hyl hsw pi_w ok hg pts_ttB pe_teB hs, ?_⟩
  refine de_lcl f ok hg hi hN hz h E.en fun v H' s r => ?_
  exact k H0 _ H' D ((E.mono s).set (w := .ll _) r fit_none) kn kr
theorem di_llM {α : Type} {f : α → List D} {xs : List α} (h : De C X δ e (.ll (xs.map f))) : Di false C X δ tg e (xs.map fun x => .l (f x)) := by
  have z := di_ll (tg := tg) h
  rw [List.map_map] at z
  exact z
/-- name = [.. for .. in ..] without a test, the name a plain local -/
theorem ds_setN {α : Type} {i : Nat} {x : Str} {t : Bool} {elt tg iter : Expr} {scope : Scope} {own : List (Str × Nat)} {g : TG} {xs : List α} {enc : α → W} {py : Pos} (f : α → D) (hy : X.N[i]? = some x) (ok : BlkOk X.N X.env.scope scope own)
    (hg : ∀ (s : Shared) (H : Hp) (Cc : Addr) (cl : List (Str × Addr)) (fp : List Addr), PG (X.blk s H scope (compEnvC scope cl Cc X.env) fp) tg g)
    (hi : Di t C X δ tg iter (xs.map enc)) (hN : X.N.Nodup) (hz : xs.length ≤ 50000)
    (h : ∀ x ∈ xs, ∃ δ', Dg X.K C g (enc x) (wipeD δ (own.map (·.2))) δ' (own.map (·.2)) ∧
      (∀ (s : Shared) (H : Hp) (Cc : Addr) (cl : List (Str × Addr)) (fp : List Addr), De C (X.blk s H scope (compEnvC scope cl Cc X.env) fp) δ' elt (.d (f x))))
    (k : Ds C X none (δ.set i (some (.l (xs.map f)))) rest O)
    (hyl : X.env.scope.names.lookup x = some .local := by rfl) (hsw : swapsWith (.ListComp elt [⟨tg, iter, [], 0⟩] scope pos) (some (.Name x py)) p.line X.env = pure true := by exact sw_true rfl rfl rfl (by decide +kernel))
    (hc : X.calm = true := by rfl) (hs : ∀ x, foldedSetIterable iter X.env x = pure x := by intro _; rfl) : Ds C X none δ (.Assign [.Name x py] (.ListComp elt [⟨tg, iter, [], 0⟩] scope pos) p :: rest) O :=
  ds_setA (pos := pos) (p := p) (ifs := []) (fun _ => true) f hy ok hg hi hN hz (fun x hx => by
    obtain ⟨δ', a, b⟩ := h x hx
    exact ⟨δ', a, fun _ _ _ _ _ => dts_nil, fun _ => b⟩) (by rw [List.filter_eq_self.mpr fun _ _ => rfl]; exact k) hyl hsw hc hs
end
section
variable {P : Program} {w : World} {K : PySem.W.Frag} {mg : Str → Option Value} {base : Heap} {C : Addr}
def R_law_moved : List W → W → Prop := fun ws v => ∃ (rows : List Int) (r : Int) (st : St) (h : Nat) (x : Int × Option (List Cell)), ws = [.d (.str "levels"), .d (.tup (rows.map D.int)), .d (.int r), .d (eSt st), .d (nI h)] ∧ Wf rows st ∧ st.states[h]? = some (some x) ∧ v = .d (eSt (moved rows st h))
theorem ok__law_moved (T : Tx K mg C) : Okf P w K mg base 2 "_law_moved" (spD C K R_law_moved) := by
  refine okD T.a__law_moved sc__law_moved bn__law_moved (fun ws v ⟨_, _, _, _, _, h, _⟩ => h ▸ rfl) fun f cdv A outer s H E hr ws v h => ?_
  have nd := sc__law_moved.nd
  obtain ⟨rows, r, st, h, x, rfl, Wt, hx, rfl⟩ := h
  have hls : h < st.states.length := (List.getElem?_eq_some_iff.mp hx).1
  have hl : h < rows.length := Wt.ls ▸ hls
  have h5 := Wt.n5
  have lc := Wt.lc
  have ls := Wt.ls
  have lt := Wt.lt
  have hnow : ∀ now, x.2 = some now → now.length < st.cells.length := fun now e => by
    rw [lc]
    exact Wt.now h x.1 now (by rw [hx, ← e])
  have ht := Wt.tol h x hx
  have em : moved rows st h = movedBy st h x.2.isNone (after rows h st.cells x) := by
    unfold moved
    rw [hx]
  rw [em]
  generalize ha : after rows h st.cells x = a
  have hst : atI (st.states.map eS) (((h : Nat)) : Int) = some (eS (some x)) := atI_map eS hx
  have htd : atI (st.told.map eT) (((h : Nat)) : Int) = some (eT []) := atI_map eT ht
  refine ds_un3 (i := 5) (j := 6) (l := 7) (dv 3 rfl rfl) ?_ nd
  refine ds_ifT (dt_cmp dr_eqS (dv 0 rfl rfl) de_str) ?_
  refine ds_un3 (i := 8) (j := 9) (l := 10) (d1 := eC a.1) (d2 := eS a.2.1) (d3 := eO a.2.2) (de_cal (ok__law_level T) hr (da_cons ((dv 1 rfl rfl)) (da_cons ((dv 5 rfl rfl)) (da_cons ((dv 4 rfl rfl)) (da_cons (de_ix (dx_t hst) (dv 6 rfl rfl) (dv 4 rfl rfl)) da_nil)))) ⟨rows, h, st.cells, x, rfl, hl, by omega, hnow, by rw [ha]; rfl⟩) (ds_nil ?_) nd
  have fin : ∀ (cs : List Cell), cs.length = rows.length → Ds C (bx P w K mg base n__law_moved "_law_moved" (topS 124) f cdv A outer s H E) none [some (.d (.str "levels")), some (.d (.tup (rows.map D.int))), some (.d (.int r)), some (.d (eSt st)), some (.d (nI h)), some (.d (.tup (cs.map eC))), some (.d (.tup (st.states.map eS))), some (.d (.tup (st.told.map eT))), some (.d (eC a.1)), some (.d (eS a.2.1)), some (.d (eO a.2.2))] ((defBody (topS 124)).drop 3)
      ⟨fun _ => W.d (eSt ⟨cs, st.states.set h a.2.1, match a.2.2 with | none => st.told | some it => st.told.set h (st.told.getD h [] ++ [it])⟩) = .d .non, fun v' => v' = W.d (eSt ⟨cs, st.states.set h a.2.1, match a.2.2 with | none => st.told | some it => st.told.set h (st.told.getD h [] ++ [it])⟩)⟩ := fun cs hcs => by
    refine ds_if (k := a.2.2.isSome) (Dt.is (dt_cmp (dr_notN (nr_eO _)) (dv 10 rfl rfl) de_non) (by rw [isNon_eO]; cases a.2.2 <;> rfl)) (fun h2 => ?_) fun h2 => ?_
    · obtain ⟨c1, s1, it⟩ := a
      cases it with
      | none => cases h2
      | some it =>
        refine ds_set (i := 7) (de_repl (dv 7 rfl rfl) (dv 4 rfl rfl) (de_tup (dd_cons (de_bin (dr_catT (by simp)) (de_ix (dx_t htd) (dv 7 rfl rfl) (dv 4 rfl rfl)) (de_tup (dd_cons ((dv 10 rfl rfl)) dd_nil))) dd_nil)) (dv 7 rfl rfl) (de_bin dr_add (dv 4 rfl rfl) de_int) (by rw [List.length_map]; omega) (by rw [List.length_map]; omega)) (ds_nil ?_) nd
        refine ds_ret (de_tup (dd_cons ((dv 5 rfl rfl)) (dd_cons (de_repl (dv 6 rfl rfl) (dv 4 rfl rfl) (de_tup (dd_cons ((dv 9 rfl rfl)) dd_nil)) (dv 6 rfl rfl) (de_bin dr_add (dv 4 rfl rfl) de_int) (by rw [List.length_map]; omega) (by rw [List.length_map]; omega)) (dd_cons ((dv 7 rfl rfl)) dd_nil)))) ?_
        unfold eSt
        simp only [List.map_set, List.getD_eq_getElem?_getD, ht]
        rfl
    · obtain ⟨c1, s1, it⟩ := a
      cases it with
      | some it => cases h2
      | none =>
        refine ds_nil (ds_ret (de_tup (dd_cons ((dv 5 rfl rfl)) (dd_cons (de_repl (dv 6 rfl rfl) (dv 4 rfl rfl) (de_tup (dd_cons ((dv 9 rfl rfl)) dd_nil)) (dv 6 rfl rfl) (de_bin dr_add (dv 4 rfl rfl) de_int) (by rw [List.length_map]; omega) (by rw [List.length_map]; omega)) (dd_cons ((dv 7 rfl rfl)) dd_nil)))) ?_)
        unfold eSt
        simp only [List.map_set]
  refine ds_if (k := x.2.isNone) (dt_cmp (eqv_next (units_of hr) x.2) (de_cal (ok__law_next T) hr (da_cons ((dv 0 rfl rfl)) (da_cons (de_ix (dx_t hst) (dv 6 rfl rfl) (dv 4 rfl rfl)) da_nil)) ⟨x.1, x.2, rfl, rfl⟩) (de_tup (dd_cons (de_str) dd_nil))) (fun hk => ?_) fun hk => ?_
  · refine ds_set (i := 5) (w := .d (.tup ((st.cells.set h a.1).map eC))) (De.is (de_repl (dv 5 rfl rfl) (dv 4 rfl rfl) (de_tup (dd_cons ((dv 8 rfl rfl)) dd_nil)) (dv 5 rfl rfl) (de_bin dr_add (dv 4 rfl rfl) de_int) (by rw [List.length_map]; omega) (by rw [List.length_map]; omega)) (by rw [List.map_set])) (ds_nil ?_) nd
    have z := fin (st.cells.set h a.1) (by rw [List.length_set]; exact lc)
    unfold movedBy
    rw [hk]
    exact z
  · refine ds_nil ?_
    have z := fin st.cells lc
    unfold movedBy
    rw [hk]
    exact z
def R_law_left : List W → W → Prop := R_movers
theorem ok__law_left (T : Tx K mg C) : Okf P w K mg base 1 "_law_left" (spD C K R_law_left) := by
  refine okD T.a__law_left sc__law_left bn__law_left (fun ws v ⟨_, h, _⟩ => h ▸ rfl) fun f cdv A outer s H E hr ws v h => ?_
  have nd := sc__law_left.nd
  obtain ⟨st, rfl, hz, rfl⟩ := h
  have hat : ∀ {i : Nat}, i ∈ List.range st.states.length → atI (st.states.map eS) ((i : Nat) : Int) = some (eS (st.states.getD i none)) := fun {i} hi => by
    have hi := List.mem_range.mp hi
    exact atI_map eS (by rw [List.getD_eq_getElem?_getD, List.getElem?_eq_getElem hi]; rfl)
  refine ds_ret (De.is (de_callTy dc_tupL T.f_tuple (da_cons (de_of_l (dl_lcA (t := true) (own := [("_law_one", 1)]) (g := gName 1) (xs := List.range st.states.length) (enc := fun i => .d (nI i)) (fun i => (st.states.getD i none).isSome) nI (blkOk_by (N := n__law_left) (sc := defScope (topS 125)) (by decide +kernel)) (fun _ _ _ _ _ => pg_name nd rfl (by first | exact .inl rfl | exact .inr rfl)) (di_range (n := st.states.length) (by omega) (De.is (de_callB dc_lenT T.f_len (da_cons (de_ix (dx_t rfl) (dv 0 rfl rfl) de_int) da_nil)) (by rw [List.length_map])) T.f_range) nd (by simp; omega) fun i hi => ⟨_, dg_name, fun _ _ _ _ _ => dts_one (Dt.is (dt_cmp (dr_notN (nr_eS _)) (de_ix (dx_t (hat hi)) (de_ix (dx_t rfl) (dv 0 rfl rfl) de_int) (dv 1 rfl rfl)) de_non) ?_), fun _ _ _ _ _ _ => (dv 1 rfl rfl)⟩)) da_nil)) ?_) rfl
  · rw [isNon_eS]
    cases st.states.getD i none <;> rfl
  · rw [left_range]
theorem outs_snoc {rows : List Int} : ∀ (t : Nat) (s : St), outs rows (t + 1) s = outs rows t s ++ (match left (runs rows s (outs rows t s)) with | [] => [] | h :: _ => [h])
  | 0, s => by
    cases e : left s with
    | nil =>
      rw [outs_nil e]
      show _ = [] ++ (match left s with | [] => [] | h :: _ => [h])
      rw [e]
      rfl
    | cons h r =>
      rw [outs_cons e]
      show _ = [] ++ (match left s with | [] => [] | h :: _ => [h])
      rw [e]
      rfl
  | t + 1, s => by
    cases e : left s with
    | nil =>
      rw [outs_nil e, outs_nil e]
      show _ = [] ++ (match left s with | [] => [] | h :: _ => [h])
      rw [e]
      rfl
    | cons h r =>
      rw [outs_cons e, outs_cons e, outs_snoc t (moved rows s h)]
      rfl
def R_law_whole : List W → W → Prop := fun ws v => ∃ (rows : List Int) (r : Int) (hs : List Nat) (st : St), ws = [.d (.str "levels"), .d (.tup (rows.map D.int)), .d (.int r), .l (hs.map nI), .d (eSt st)] ∧ Wf rows st ∧ hs.length ≤ 3000 ∧
  v = .d (.tup [.tup ((hs ++ outs rows 2000 st).map nI), eSt (runs rows st (outs rows 2000 st))])
theorem ok__law_whole (T : Tx K mg C) : Okf P w K mg base 3 "_law_whole" (spD C K R_law_whole) := by
  refine okD T.a__law_whole sc__law_whole bn__law_whole (fun ws v ⟨_, _, _, _, h, _⟩ => h ▸ rfl) fun f cdv A outer s H E hr ws v h => ?_
  have nd := sc__law_whole.nd
  obtain ⟨rows, r, hs, st, rfl, Wt, hz, rfl⟩ := h
  have h5 := Wt.n5
  have e0 : hs ++ outs rows 0 st = hs := List.append_nil hs
  refine ds_ownW (i := 5) (xs := hs.map nI) [3] (dl_listW (.inl rfl) (dv 3 rfl rfl) T.f_list) ?_ (fun j w' hj e => ?_) nd (by simp [startW])
  · refine ds_for (t := true) (ws := rangeW 2000) (di_range (n := 2000) (by omega) de_int T.f_range) (pg_name nd rfl (by first | exact .inl rfl | exact .inr rfl)) (g := gName 6) (fun t δ' => ∃ a b, δ' = [some (.d (.str "levels")), some (.d (.tup (rows.map D.int))), some (.d (.int r)), none, some (.d (eSt (runs rows st (outs rows t st)))), some (.l ((hs ++ outs rows t st).map nI)), a, b]) ⟨none, none, by rw [e0]; rfl⟩ (fun t w' δ' hw hI => ?_) fun δ' hI => ?_
    · obtain ⟨a, b, rfl⟩ := hI
      have ht : t < 2000 := by
        have := (List.getElem?_eq_some_iff.mp hw).1
        unfold rangeW at this
        simpa using this
      have hw' : w' = .d (nI t) := by
        unfold rangeW at hw
        rw [List.getElem?_map, List.getElem?_range ht] at hw
        cases hw
        rfl
      subst hw'
      have Ws := wf_runs (hs := outs rows t st) Wt
      have ol := outs_length (rows := rows) t st
      refine ⟨_, dgm_name, ?_⟩
      generalize hs1 : runs rows st (outs rows t st) = s1 at *
      refine ds_set (i := 7) (w := .d (.tup ((left s1).map nI))) (de_cal (ok__law_left T) hr (da_cons ((dv 4 rfl rfl)) da_nil) ⟨s1, rfl, by rw [Ws.ls]; omega, rfl⟩) ?_ nd
      refine ds_if (k := decide (0 < (left s1).length)) (Dt.is (dt_cmp dr_gt (de_callB dc_lenT T.f_len (da_cons ((dv 7 rfl rfl)) da_nil)) de_int) (by rw [List.length_map]; simp)) (fun hk => ?_) fun hk => ?_
      · cases e : left s1 with
        | nil => rw [e] at hk; cases hk
        | cons h rr =>
          obtain ⟨x, hx⟩ := left_mem (s := s1) (h := h) (by rw [e]; exact List.mem_cons_self)
          have h0 : atI ((h :: rr).map nI) 0 = some (nI h) := atI_nat (j := 0) rfl
          have es : outs rows (t + 1) st = outs rows t st ++ [h] := by rw [outs_snoc, hs1, e]
          refine ds_app (i := 5) (xs := (hs ++ outs rows t st).map nI) rfl (de_ix (dx_t h0) (dv 7 rfl rfl) de_int) (by rw [List.length_map, List.length_append]; omega) ?_
          refine ds_set (i := 4) (de_cal (ok__law_moved T) hr (da_cons ((dv 0 rfl rfl)) (da_cons ((dv 1 rfl rfl)) (da_cons ((dv 2 rfl rfl)) (da_cons ((dv 4 rfl rfl)) (da_cons (de_ix (dx_t h0) (dv 7 rfl rfl) de_int) da_nil))))) ⟨rows, r, s1, h, x, rfl, Ws, hx, rfl⟩) (ds_nil (ds_nil ⟨some (.d (nI t)), some (.d (.tup ((h :: rr).map nI))), ?_⟩)) nd
          have em : (hs ++ outs rows t st ++ [h]).map nI = (hs ++ outs rows t st).map nI ++ [nI h] := List.map_append
          rw [es, runs_app, hs1, ← List.append_assoc, em]
          rfl
      · have hk := of_decide_eq_false hk
        have e : left s1 = [] := List.eq_nil_of_length_eq_zero (by omega)
        have es : outs rows (t + 1) st = outs rows t st := by rw [outs_snoc, hs1, e, List.append_nil]
        refine ds_nil (ds_nil ⟨some (.d (nI t)), some (.d (.tup ((left s1).map nI))), ?_⟩)
        rw [es, hs1]
        rfl
    · obtain ⟨a, b, rfl⟩ := hI
      refine ds_ret (de_tup (dd_cons ((de_callTy dc_tupL T.f_tuple (da_cons ((dv 5 rfl rfl)) da_nil))) (dd_cons ((dv 4 rfl rfl)) dd_nil))) ?_
      unfold rangeW
      rw [List.length_map, List.length_range]
  · match j, e with
    | 0, e => cases e; exact ⟨_, rfl⟩
    | 1, e => cases e; exact ⟨_, rfl⟩
    | 2, e => cases e; exact ⟨_, rfl⟩
    | 3, e => cases e
    | 4, e => cases e; exact ⟨_, rfl⟩
    | 6, e => cases e
    | 7, e => cases e
    | n + 8, e => cases e
end
end OP

set_option Elab.async false
set_option linter.all false
set_option maxRecDepth 100000
set_option maxHeartbeats 4000000
/-! OpL3: what the law says of what is told -/
namespace OP
open PySem PySem.Spec PyProof.Rows L2
theorem Dl.is {C : Addr} {X : Cx} {δ : Dn} {e : Expr} {k k' : List D} (h : Dl C X δ e k) (q : k = k') : Dl C X δ e k' := q ▸ h
theorem hd_map (it : Item) : (it.map fun p => D.int p.1) = (hd it).map D.int := by
  unfold hd
  rw [List.map_map]
  rfl
section
variable {P : Program} {w : World} {K : PySem.W.Frag} {mg : Str → Option Value} {base : Heap} {C : Addr}
def R_law_has : List W → W → Prop := fun ws v => ∃ (as bs : List Int), ws = [.l (as.map D.int), .l (bs.map D.int)] ∧ as.length ≤ 1000 ∧ v = .d (.bl (lotB as bs))
theorem ok__law_has (T : Tx K mg C) : Okf P w K mg base 1 "_law_has" (spD C K R_law_has) := by
  refine okD T.a__law_has sc__law_has bn__law_has (fun ws v ⟨_, _, h, _⟩ => h ▸ rfl) fun f cdv A outer s H E hr ws v h => ?_
  have nd := sc__law_has.nd
  obtain ⟨as, bs, rfl, hz, rfl⟩ := h
  exact ds_ret (de_allP (dl_lcN (t := false) (own := [("_law_item", 2)]) (g := gName 2) (xs := as) (enc := fun i => .d (.int i)) (fun a => .bl (decide (a ∈ bs))) (blkOk_by (N := n__law_has) (sc := defScope (topS 129)) (by decide +kernel)) (fun _ _ _ _ _ => pg_name nd rfl (by first | exact .inl rfl | exact .inr rfl)) (di_listM (dv 0 rfl rfl)) nd (by omega) fun i hi' => ⟨_, dg_name, fun _ _ _ _ _ => de_cmp dr_inL (dv 2 rfl rfl) (dv 1 rfl rfl)⟩) T.f_all) rfl
def R_law_are_chain : List W → W → Prop := fun ws v => ∃ (ls : List (List Int)), ws = [.ll (ls.map fun l => l.map D.int)] ∧ ls.length ≤ 1000 ∧ (∀ a ∈ ls, a.length ≤ 1000) ∧ (∀ a ∈ ls, ∀ b ∈ ls, lotB a b = true ∨ lotB b a = true) ∧ v = .d (.bl true)
theorem ok__law_are_chain (T : Tx K mg C) : Okf P w K mg base 2 "_law_are_chain" (spD C K R_law_are_chain) := by
  refine okD T.a__law_are_chain sc__law_are_chain bn__law_are_chain (fun ws v ⟨_, h, _⟩ => h ▸ rfl) fun f cdv A outer s H E hr ws v h => ?_
  have nd := sc__law_are_chain.nd
  obtain ⟨ls, rfl, hz, hz2, hc, rfl⟩ := h
  refine ds_for (t := false) (ws := ls.map fun l => .l (l.map D.int)) (di_llM (xs := ls) (f := fun l => l.map D.int) (dv 0 rfl rfl)) (pg_name nd rfl (by first | exact .inl rfl | exact .inr rfl)) (g := gName 1) (fun t δ' => ∃ a b, δ' = [some (.ll (ls.map fun l => l.map D.int)), a, b]) ⟨none, none, rfl⟩ (fun t w' δ' hw hI => ?_) fun δ' hI => ?_
  · obtain ⟨a, b, rfl⟩ := hI
    rw [List.getElem?_map] at hw
    cases e : ls[t]? with
    | none => rw [e] at hw; cases hw
    | some one =>
      rw [e] at hw
      cases hw
      have ho := List.mem_of_getElem? e
      refine ⟨_, dgm_name, ds_skip (Dt.is (dt_not (dt_val (x := true) (de_allT (dl_lcN (t := false) (own := [("_law_other", 2)]) (g := gName 2) (xs := ls) (enc := fun l => .l (l.map D.int)) (fun _ => .bl true) (blkOk_by (N := n__law_are_chain) (sc := defScope (topS 130)) (by decide +kernel)) (fun _ _ _ _ _ => pg_name nd rfl (by first | exact .inl rfl | exact .inr rfl)) (di_llM (xs := ls) (f := fun l => l.map D.int) (dv 0 rfl rfl)) nd (by omega) fun i hi => ⟨_, dg_name, fun _ _ _ _ _ => ?_⟩) T.f_all))) rfl) (ds_nil ⟨_, _, rfl⟩)⟩
      refine De.is (de_or (de_cal (ok__law_has T) hr (da_cons ((dv 1 rfl rfl)) (da_cons ((dv 2 rfl rfl)) da_nil)) ⟨one, i, rfl, hz2 one ho, rfl⟩) fun _ => de_one (de_cal (ok__law_has T) hr (da_cons ((dv 2 rfl rfl)) (da_cons ((dv 1 rfl rfl)) da_nil)) ⟨i, one, rfl, hz2 i hi, rfl⟩)) ?_
      rcases hc one ho i hi with z | z <;> simp [z]
  · obtain ⟨a, b, rfl⟩ := hI
    exact ds_ret de_bl rfl
def R_law_all : List W → W → Prop := R_flat
theorem ok__law_all (T : Tx K mg C) : Okf P w K mg base 1 "_law_all" (spD C K R_law_all) := by
  refine okD T.a__law_all sc__law_all bn__law_all (fun ws v ⟨_, h, _⟩ => h ▸ rfl) fun f cdv A outer s H E hr ws v h => ?_
  have nd := sc__law_all.nd
  obtain ⟨told, rfl, hz, rfl⟩ := h
  refine ds_own (i := 1) (xs := []) (dl_lst dd_nil) ?_ (fun j w' hj e => ?_) nd (by simp [startW])
  · refine ds_for (t := true) (di_tupM (xs := told) (f := eT) (dv 0 rfl rfl)) (pg_name nd rfl (by first | exact .inl rfl | exact .inr rfl)) (g := gName 2) (fun t δ' => ∃ a, δ' = [some (.d (.tup (told.map eT))), some (.l (((told.take t).flatten).map eI)), a]) ⟨none, rfl⟩ (fun t w' δ' hw hI => ?_) fun δ' hI => ?_
    · obtain ⟨a, rfl⟩ := hI
      rw [List.getElem?_map] at hw
      cases e : told[t]? with
      | none => rw [e] at hw; cases hw
      | some its =>
        rw [e] at hw
        cases hw
        have l1 := take_flat_le told (t + 1)
        rw [take_flat e, List.length_append] at l1
        refine ⟨_, dgm_name, ds_extL (i := 1) (xs := ((told.take t).flatten).map eI) (ys := its.map eI) rfl (dl_listW (.inr rfl) (dv 2 rfl rfl) T.f_list) (by rw [List.length_map, List.length_map]; omega) (ds_nil ⟨some (.d (eT its)), ?_⟩)⟩
        rw [take_flat e, List.map_append]
        rfl
    · obtain ⟨a, rfl⟩ := hI
      refine ds_ret (dv 1 rfl rfl) ?_
      rw [List.length_map, List.take_length]
  · match j, e with
    | 0, e => cases e; exact ⟨_, rfl⟩
    | 2, e => cases e
    | n + 3, e => cases e
def R_law_level_fault : List W → W → Prop := fun ws v => ∃ (rows cs : List Int) (told : List (List Item)), ws = [.d (.tup (rows.map D.int)), .d (.tup (cs.map D.int)), .d (.tup (told.map eT))] ∧ GoodT rows cs told ∧ v = .d .non
theorem ok__law_level_fault (T : Tx K mg C) : Okf P w K mg base 3 "_law_level_fault" (spD C K R_law_level_fault) := by
  refine okD T.a__law_level_fault sc__law_level_fault bn__law_level_fault (fun ws v ⟨_, _, _, h, _⟩ => h ▸ rfl) fun f cdv A outer s H E hr ws v h => ?_
  have nd := sc__law_level_fault.nd
  obtain ⟨rows, cs, told, rfl, g, rfl⟩ := h
  have hfl := g.fl
  have h5 := g.n5
  have hnl := g.nl
  have ln : ∀ {it : Item}, it ∈ told.flatten → it.length ≤ 1000 := fun h => by
    have := (g.gf h).ln
    omega
  have lnh : ∀ {it : Item}, it ∈ told.flatten → (hd it).length ≤ 1000 := fun h => by
    unfold hd
    rw [List.length_map]
    exact ln h
  have hat : ∀ {i : Nat} (its : List Item), told[i]? = some its → atI (told.map eT) ((i : Nat) : Int) = some (eT its) := fun its h => atI_map eT h
  refine ds_set (i := 3) (w := .l (told.flatten.map eI)) (de_cal (ok__law_all T) hr (da_cons ((dv 2 rfl rfl)) da_nil) ⟨told, rfl, hfl, rfl⟩) ?_ nd
  refine ds_setLl (i := 4) (t := false) (own := [("_law_item", 5)]) (g := gName 5) (xs := told.flatten) (enc := fun i => .d (eI i)) (fun it => (hd it).map D.int) rfl (blkOk_by (N := n__law_level_fault) (sc := defScope (topS 132)) (by decide +kernel)) (fun _ _ _ _ _ => pg_name nd rfl (by first | exact .inl rfl | exact .inr rfl)) (di_listM (dv 3 rfl rfl)) nd (by omega) (fun it hit => ⟨_, dg_name, fun _ _ _ _ _ => Dl.is (dl_lcN (t := true) (own := [("_law_pair", 8)]) (g := gName 8) (xs := it) (enc := fun p => .d (eP p)) (fun p => .int p.1) (blkOk_by (N := n__law_level_fault) (sc := relS _ (defScope (topS 132))) (by decide +kernel)) (fun _ _ _ _ _ => pg_name nd rfl (by first | exact .inl rfl | exact .inr rfl)) (di_tupM (dv 5 rfl rfl)) nd (by have := ln hit; omega) fun p hp => ⟨_, dg_name, fun _ _ _ _ _ => de_ix (dx_t (d := .int p.1) rfl) (dv 8 rfl rfl) de_int⟩) (hd_map it)⟩) ?_
  refine ds_skip (dt_val (de_anyF (dl_lcN (t := true) (own := [("_law_one", 9)]) (g := gName 9) (xs := List.range rows.length) (enc := fun i => .d (nI i)) (fun _ => .bl false) (blkOk_by (N := n__law_level_fault) (sc := defScope (topS 132)) (by decide +kernel)) (fun _ _ _ _ _ => pg_name nd rfl (by first | exact .inl rfl | exact .inr rfl)) (di_range (n := rows.length) (by omega) (De.is (de_callB dc_lenT T.f_len (da_cons ((dv 0 rfl rfl)) da_nil)) (by rw [List.length_map])) T.f_range) nd (by simp; omega) fun i hi => ⟨_, dg_name, fun _ _ _ _ _ => ?_⟩) T.f_any)) ?_
  · have hi := List.mem_range.mp hi
    have hk : told[i]? = some (told[i]'(by omega)) := List.getElem?_eq_getElem (by omega)
    refine de_anyF (dl_lcN (t := true) (own := [("_law_item", 5)]) (g := gName 5) (xs := told[i]'(by omega)) (enc := fun i => .d (eI i)) (fun _ => .bl false) (blkOk_by (N := n__law_level_fault) (sc := relS _ (defScope (topS 132))) (by decide +kernel)) (fun _ _ _ _ _ => pg_name nd rfl (by first | exact .inl rfl | exact .inr rfl)) (di_tupM (de_ix (dx_t (hat _ hk)) (dv 2 rfl rfl) (dv 9 rfl rfl))) nd (by have := g.one _ (List.mem_of_getElem? hk); omega) fun it hit => ⟨_, dg_name, fun _ _ _ _ _ => ?_⟩) T.f_any
    have hf := List.mem_flatten.mpr ⟨_, List.mem_of_getElem? hk, hit⟩
    have zz := g.own i _ hk it hit
    exact De.is (de_cmp (dr_notInL (ns := hd it)) (dv 9 rfl rfl) (De.is (de_of_l (dl_lcN (t := true) (own := [("_law_pair", 8)]) (g := gName 8) (xs := it) (enc := fun p => .d (eP p)) (fun p => .int p.1) (blkOk_by (N := n__law_level_fault) (sc := relS _ (relS _ (defScope (topS 132)))) (by decide +kernel)) (fun _ _ _ _ _ => pg_name nd rfl (by first | exact .inl rfl | exact .inr rfl)) (di_tupM (dv 5 rfl rfl)) nd (by have := ln hf; omega) fun p hp => ⟨_, dg_name, fun _ _ _ _ _ => de_ix (dx_t (d := .int p.1) rfl) (dv 8 rfl rfl) de_int⟩)) (by rw [hd_map]))) (by simp [zz])
  refine ds_skip (dt_val (de_anyF (dl_lcN (t := false) (own := [("_law_item", 5)]) (g := gName 5) (xs := told.flatten) (enc := fun i => .d (eI i)) (fun _ => .bl false) (blkOk_by (N := n__law_level_fault) (sc := defScope (topS 132)) (by decide +kernel)) (fun _ _ _ _ _ => pg_name nd rfl (by first | exact .inl rfl | exact .inr rfl)) (di_listM (dv 3 rfl rfl)) nd (by omega) fun it hit => ⟨_, dg_name, fun _ _ _ _ _ => ?_⟩) T.f_any)) ?_
  · refine de_anyF (dl_lcN (t := true) (own := [("_law_pair", 8)]) (g := gName 8) (xs := it) (enc := fun p => .d (eP p)) (fun p => .bl false) (blkOk_by (N := n__law_level_fault) (sc := relS _ (defScope (topS 132))) (by decide +kernel)) (fun _ _ _ _ _ => pg_name nd rfl (by first | exact .inl rfl | exact .inr rfl)) (di_tupM (dv 5 rfl rfl)) nd (by have := ln hit; omega) fun p hp => ⟨_, dg_name, fun _ _ _ _ _ => ?_⟩) T.f_any
    obtain ⟨its, h1, h2⟩ := List.mem_flatten.mp hit
    obtain ⟨h3, h4⟩ := g.val its h1 it h2 p hp
    have h0 := (g.clt _ h3).1
    have hx : atI (rows.map D.int) p.1 = some (.int p.2) := by
      obtain ⟨k, hk⟩ := Int.eq_ofNat_of_zero_le h0
      rw [hk] at h4 ⊢
      exact atI_map D.int h4
    exact De.is (de_or (de_cmp dr_notInT (de_ix (dx_t (d := .int p.1) rfl) (dv 8 rfl rfl) de_int) (dv 1 rfl rfl)) fun _ => de_one (de_cmp dr_neI (de_ix (dx_t hx) (dv 0 rfl rfl) (de_ix (dx_t (d := .int p.1) rfl) (dv 8 rfl rfl) de_int)) (de_ix (dx_t (d := .int p.2) rfl) (dv 8 rfl rfl) de_int))) (by simp [h3])
  refine ds_skip (Dt.is (dt_not (dt_val (x := true) (de_cal (ok__law_are_chain T) hr (da_cons ((dv 4 rfl rfl)) da_nil) ⟨told.flatten.map hd, by rw [List.map_map]; rfl, by rw [List.length_map]; exact hfl, fun l hl => ?_, fun a ha b hb => ?_, rfl⟩))) rfl) ?_
  · obtain ⟨i, hi, rfl⟩ := List.mem_map.mp hl
    exact lnh hi
  · obtain ⟨i, hi, rfl⟩ := List.mem_map.mp ha
    obtain ⟨j, hj, rfl⟩ := List.mem_map.mp hb
    exact g.chain i hi j hj
  refine ds_for (t := false) (ws := told.flatten.map fun i => .d (eI i)) (di_listM (dv 3 rfl rfl)) (pg_name nd rfl (by first | exact .inl rfl | exact .inr rfl)) (g := gName 5) (fun t δ' => ∃ a b c d e f, δ' = [some (.d (.tup (rows.map D.int))), some (.d (.tup (cs.map D.int))), some (.d (.tup (told.map eT))), some (.l (told.flatten.map eI)), a, b, c, d, e, f, none]) ⟨_, _, _, _, _, _, rfl⟩ (fun t w' δ' hw hI => ?_) fun δ' hI => ?_
  · obtain ⟨a, b, c, d, e, f, rfl⟩ := hI
    rw [List.getElem?_map] at hw
    cases eq : told.flatten[t]? with
    | none => rw [eq] at hw; cases hw
    | some it =>
      rw [eq] at hw
      cases hw
      have hit := List.mem_of_getElem? eq
      refine ⟨_, dgm_name, ?_⟩
      refine ds_set (i := 6) (w := .l ((hd it).map D.int)) (De.is (de_of_l (dl_lcN (t := true) (own := [("_law_pair", 8)]) (g := gName 8) (xs := it) (enc := fun p => .d (eP p)) (fun p => .int p.1) (blkOk_by (N := n__law_level_fault) (sc := defScope (topS 132)) (by decide +kernel)) (fun _ _ _ _ _ => pg_name nd rfl (by first | exact .inl rfl | exact .inr rfl)) (di_tupM (dv 5 rfl rfl)) nd (by have := ln hit; omega) fun p hp => ⟨_, dg_name, fun _ _ _ _ _ => de_ix (dx_t (d := .int p.1) rfl) (dv 8 rfl rfl) de_int⟩)) (by rw [hd_map])) ?_ nd
      refine ds_for (t := false) (ws := (hd it).map fun i => .d (.int i)) (di_listM (dv 6 rfl rfl)) (pg_name nd rfl (by first | exact .inl rfl | exact .inr rfl)) (g := gName 7) (fun t δ' => ∃ a d e f, δ' = [some (.d (.tup (rows.map D.int))), some (.d (.tup (cs.map D.int))), some (.d (.tup (told.map eT))), some (.l (told.flatten.map eI)), a, some (.d (eI it)), some (.l ((hd it).map D.int)), d, e, f, none]) ⟨_, _, _, _, rfl⟩ (fun t w' δ' hw hI => ?_) fun δ' hI => ?_
      · obtain ⟨a, d, e, f, rfl⟩ := hI
        rw [List.getElem?_map] at hw
        cases eq2 : (hd it)[t]? with
        | none => rw [eq2] at hw; cases hw
        | some i =>
          rw [eq2] at hw
          cases hw
          have him := List.mem_of_getElem? eq2
          obtain ⟨p, hp, hpi⟩ := List.mem_map.mp him
          obtain ⟨⟨h0, h1⟩, _⟩ := (g.gf hit).lt p hp
          rw [hpi] at h0 h1
          obtain ⟨k, rfl⟩ := Int.eq_ofNat_of_zero_le h0
          have hkl : k < told.length := by omega
          have hk : told[k]? = some told[k] := List.getElem?_eq_getElem hkl
          refine ⟨_, dgm_name, ds_skip (dt_val (de_anyF (dl_lcN (t := true) (own := [("_law_more", 10)]) (g := gName 10) (xs := told[k]) (enc := fun i => .d (eI i)) (fun _ => .bl false) (blkOk_by (N := n__law_level_fault) (sc := defScope (topS 132)) (by decide +kernel)) (fun _ _ _ _ _ => pg_name nd rfl (by first | exact .inl rfl | exact .inr rfl)) (di_tupM (de_ix (dx_t (hat _ hk)) (dv 2 rfl rfl) (dv 7 rfl rfl))) nd (by have := g.one _ (List.mem_of_getElem? hk); omega) fun more hmo => ⟨_, dg_name, fun _ _ _ _ _ => ?_⟩) T.f_any)) (ds_nil ⟨_, _, _, _, rfl⟩)⟩
          have hf := List.mem_flatten.mpr ⟨_, List.mem_of_getElem? hk, hmo⟩
          have zz := g.inner it hit k him _ hk more hmo
          exact De.is (de_not (de_cal (ok__law_has T) hr (da_cons (De.is (w' := .l ((hd more).map D.int)) (de_of_l (dl_lcN (t := true) (own := [("_law_pair", 8)]) (g := gName 8) (xs := more) (enc := fun p => .d (eP p)) (fun p => .int p.1) (blkOk_by (N := n__law_level_fault) (sc := relS _ (defScope (topS 132))) (by decide +kernel)) (fun _ _ _ _ _ => pg_name nd rfl (by first | exact .inl rfl | exact .inr rfl)) (di_tupM (dv 10 rfl rfl)) nd (by have := ln hf; omega) fun p hp => ⟨_, dg_name, fun _ _ _ _ _ => de_ix (dx_t (d := .int p.1) rfl) (dv 8 rfl rfl) de_int⟩)) (by rw [hd_map])) (da_cons ((dv 6 rfl rfl)) da_nil)) ⟨hd more, hd it, rfl, lnh hf, rfl⟩)) (by rw [zz]; rfl)
      · obtain ⟨a, d, e, f, rfl⟩ := hI
        exact ds_nil ⟨_, _, _, _, _, _, rfl⟩
  · obtain ⟨a, b, c, d, e, f, rfl⟩ := hI
    exact ds_ret de_non rfl
def R_law_fault : List W → W → Prop := fun ws v => ∃ (rows cs : List Int) (r : Int) (told : List (List Item)), ws = [.d (.str "levels"), .d (.tup (rows.map D.int)), .d (.int r), .d (.tup (cs.map D.int)), .d (.tup (told.map eT))] ∧ GoodT rows cs told ∧ v = .d .non
theorem ok__law_fault (T : Tx K mg C) : Okf P w K mg base 4 "_law_fault" (spD C K R_law_fault) := by
  refine okD T.a__law_fault sc__law_fault bn__law_fault (fun ws v ⟨_, _, _, _, h, _⟩ => h ▸ rfl) fun f cdv A outer s H E hr ws v h => ?_
  have nd := sc__law_fault.nd
  obtain ⟨rows, cs, r, told, rfl, g, rfl⟩ := h
  have hfl := g.fl
  have h5 := g.n5
  have hnl := g.nl
  have hat : ∀ {i : Nat} (its : List Item), told[i]? = some its → atI (told.map eT) ((i : Nat) : Int) = some (eT its) := fun its h => atI_map eT h
  refine ds_set (i := 5) (w := .l (told.flatten.map eI)) (de_cal (ok__law_all T) hr (da_cons ((dv 4 rfl rfl)) da_nil) ⟨told, rfl, hfl, rfl⟩) ?_ nd
  refine ds_skip (dt_val (de_anyF (dl_lcN (t := true) (own := [("_law_one", 6)]) (g := gName 6) (xs := List.range rows.length) (enc := fun i => .d (nI i)) (fun _ => .bl false) (blkOk_by (N := n__law_fault) (sc := defScope (topS 135)) (by decide +kernel)) (fun _ _ _ _ _ => pg_name nd rfl (by first | exact .inl rfl | exact .inr rfl)) (di_range (n := rows.length) (by omega) (De.is (de_callB dc_lenT T.f_len (da_cons ((dv 1 rfl rfl)) da_nil)) (by rw [List.length_map])) T.f_range) nd (by simp; omega) fun i hi => ⟨_, dg_name, fun _ _ _ _ _ => ?_⟩) T.f_any)) ?_
  · have hi := List.mem_range.mp hi
    have hk : told[i]? = some (told[i]'(by omega)) := List.getElem?_eq_getElem (by omega)
    refine De.is (de_and (de_cmp dr_gt (de_callB dc_lenT T.f_len (da_cons (de_ix (dx_t (hat _ hk)) (dv 4 rfl rfl) (dv 6 rfl rfl)) da_nil)) de_int) fun _ => de_one (de_cmp dr_notInT (dv 6 rfl rfl) (dv 3 rfl rfl))) ?_
    cases ee : told[i]'(by omega) with
    | nil => simp
    | cons a b =>
      have zz := g.came i _ hk (by rw [ee]; simp)
      simp [zz]
  refine ds_ifT (dt_cmp dr_eqS (dv 0 rfl rfl) de_str) (ds_ret (de_cal (ok__law_level_fault T) hr (da_cons ((dv 1 rfl rfl)) (da_cons ((dv 3 rfl rfl)) (da_cons ((dv 4 rfl rfl)) da_nil))) ⟨rows, cs, told, rfl, g, rfl⟩) rfl)
end
end OP

set_option Elab.async false
set_option linter.all false
set_option maxRecDepth 100000
set_option maxHeartbeats 4000000
/-! OpL4: set(a list of ints), who came -/
namespace OP
open PySem PySem.Spec PyProof.Rows L2
section
variable {P : Program} {w : World} {A : Around} {E : Value → Shared → Prop} {s : Shared}
set_option maxRecDepth 100000 in
set_option maxHeartbeats 3200000 in
theorem call_set_lstI {l : Addr} {items : Array Value} (ns : List Int) {Q : Value → Shared → Prop} (hh : A.handled = none) (hl : s.heap.IsList l items) (hit : IntsAre items.toList ns) (hb : ns.length + 1 < scanBound)
    (h : ∀ (h' : Heap) (tk c : Nat), SetR w h' s.heap.objs.size (fun j => decide (j ∈ ns)) c → c ≤ ns.length → (∀ b o, s.heap.get? b = some o → h'.get? b = some o) → Q (.ref s.heap.objs.size) { s with heap := h', toks := tk }) :
    wpAny (model P w) A (call (.type "set") [.ref l]) Q E s := by
  have hisz : items.size = ns.length := by
    have q := IntsAre.length hit
    rw [Array.length_toList] at q
    exact q
  obtain ⟨c, tl, hmro⟩ := F.called_set.mro
  have hmade := F.called_set.made
  have hsub := F.called_set.sub
  refine wpAny_call (codeAny_of_tree ?_)
  show wpAny _ _ (callAny (.type "set") _) _ _ _
  refine wpAny_pure ⟨Code.quiet_builtin _ (by decide +kernel), codeAny_builtin F.entry_type_call ?_⟩
  rw [Around.under_plain (weight_type_call_type "set" [.ref l] []) rfl]
  have h1 := F.called_set.notType
  have h2 := F.called_set.canCreate
  have hct := F.typeCall_set_1 (.ref l)
  repeat (any_goals (first | assumption | wp_step))

  refine codeAny_mono (code_set_led1 (.ref l) (E := E) (Q₁ := fun obj s₁ => obj = .ref s.heap.objs.size ∧ s₁ = { s with heap := s.heap.push { cls := .type "set", dict := none, data := .set #[] 0 (.fresh 0 0 (!w.params.followText "set-order")) } }) ⟨rfl, rfl⟩) fun r s₁ hr => ?_
  cases r with
  | error e => exact hr
  | ok fl =>
    cases fl with
    | ret obj =>
      obtain ⟨rfl, rfl⟩ := hr
      have hS : (s.heap.push { cls := .type "set", dict := none, data := .set #[] 0 (.fresh 0 0 (!w.params.followText "set-order")) }).get? s.heap.objs.size = some { cls := .type "set", dict := none, data := .set #[] 0 (.fresh 0 0 (!w.params.followText "set-order")) } := Heap.get?_push_size _ rfl
      have hT : Shared.TypeIs { s with heap := s.heap.push { cls := .type "set", dict := none, data := .set #[] 0 (.fresh 0 0 (!w.params.followText "set-order")) } } (.ref s.heap.objs.size) "set" := ⟨_, hS, rfl⟩
      have hli := F.called_set.init.lookup
      have hbi := F.called_set.init.bind (.ref s.heap.objs.size)
      repeat (any_goals (first | assumption | wp_step))

      refine codeAny_mono (codeAny_call_builtin (R := wants (fun r s₂ => r = .none ∧ ∃ h' tk c, s₂ = { s with heap := h', toks := tk } ∧ SetR w h' s.heap.objs.size (fun j => decide (j ∈ ns)) c ∧ c ≤ ns.length ∧
          (∀ b o, s.heap.get? b = some o → h'.get? b = some o)) E) F.called_set.init.plain F.entry_set_init (check_set_init_1 hT ?_)) fun r₂ s₂ hr₂ => ?_
      · obtain ⟨ol, hol, hcl, nl, hdl⟩ := hl
        obtain ⟨ocls, odict, odata, oslots⟩ := ol
        simp only at hcl hdl
        subst hcl; subst hdl
        have hol' : (s.heap.push { cls := .type "set", dict := none, data := .set #[] 0 (.fresh 0 0 (!w.params.followText "set-order")) }).get? l = some { cls := .type "list", dict := odict, data := .seq items nl, slots := oslots } := Heap.get?_push_of_some _ hol
        have hsls := F.sub_list_set
        have hslf := F.sub_list_frozenset
        have hne : (Value.type "list" == Value.type "dict") = false := by decide
        have hl1 : (s.heap.push { cls := .type "set", dict := none, data := .set #[] 0 (.fresh 0 0 (!w.params.followText "set-order")) }).IsList l items := ⟨_, hol', rfl, nl, rfl⟩
        unfold Builtin.«set.__init__» noKeywords Builtin.Frozenset.updateFrom
        generalize hPI : pyIter = PI
        wp_walk
        subst hPI

        refine wpAny_pyIter_list hl1 ?_
        refine wpAny_bind (wpAny_runValue ?_)
        have hlS : l < s.heap.objs.size := Heap.lt_size hol
        have hh3 : A.in1.in1.in1.handled = none := by simp [hh]
        have hneI : l ≠ (s.heap.push { cls := .type "set", dict := none, data := .set #[] 0 (.fresh 0 0 (!w.params.followText "set-order")) }).objs.size := by
          rw [Heap.size_push]; exact Nat.ne_of_lt (Nat.lt_succ_of_lt hlS)
        have hSf : s.heap.objs.size ∉ [(s.heap.push { cls := .type "set", dict := none, data := .set #[] 0 (.fresh 0 0 (!w.params.followText "set-order")) }).objs.size, l] := by
          rw [Heap.size_push]; simp only [List.mem_cons, List.mem_singleton, List.not_mem_nil, or_false, not_or]
          exact ⟨Nat.ne_of_lt (Nat.lt_succ_self _), Nat.ne_of_gt hlS⟩
        have hval : ∀ (i : Nat) (v : Value), items[i]? = some v → ∃ k t, ns[i]? = some k ∧ v = .int k t := fun i v hv => by
          have hi : i < ns.length := by rw [← hisz]; exact (Array.getElem?_eq_some_iff.mp hv).1
          obtain ⟨t, e⟩ := PyProof.Rows.IntsAre.int_at hit i v (by rw [Array.getElem?_toList]; exact hv)
          refine ⟨ns[i], t, List.getElem?_eq_getElem hi, ?_⟩
          rw [e, List.getD_eq_getElem?_getD, List.getElem?_eq_getElem hi] <;> rfl
        refine set_update_ints ((Walks.list hh3 _ l hneI items).toS) s.heap.objs.size
          hSf ns hisz hb hval (items.size - 0) 0 _ (by omega) (Nat.zero_le _)
          ⟨⟨_, Heap.get?_push_size _ rfl, rfl, rfl⟩, (hl1.push _)⟩ ?hS0 ?hR
        case hS0 =>
          have hget : ((s.heap.push { cls := .type "set", dict := none, data := .set #[] 0 (.fresh 0 0 (!w.params.followText "set-order")) }).push { cls := .type "list_iterator", data := .fields #[.ref l, .int 0 0] }).get? s.heap.objs.size
              = some { cls := .type "set", dict := none, data := .set #[] 0 (.fresh 0 0 (!w.params.followText "set-order")) } := Heap.get?_push_of_some _ hS
          exact ⟨0, Nat.le_refl 0, setR_new_at hget⟩
        case hR =>
          intro s' c' hm hc' hS'
          obtain ⟨h', g2, d', tk', os'⟩ := s'
          have eg : g2 = s.gens := hm.gens
          have ed : d' = s.drawn := hm.drawn
          have eo : os' = s.os := hm.os
          subst eg; subst ed; subst eo
          show wpAny _ _ _ _ _ _
          refine wpAny_pure ?_
          show wpAny _ _ (ret Value.none) _ _ _
          rw [hisz] at hc'
          refine wpAny_pure ⟨rfl, h', tk', c', rfl, hS', hc', fun b o e => ?_⟩
          have hb0 : b < s.heap.objs.size := Heap.lt_size e
          have hb1 : b ≠ s.heap.objs.size := Nat.ne_of_lt hb0
          have hb2 : b ≠ (s.heap.push { cls := .type "set", dict := none, data := .set #[] 0 (.fresh 0 0 (!w.params.followText "set-order")) }).objs.size := by
            rw [Heap.size_push]; exact Nat.ne_of_lt (Nat.lt_succ_of_lt hb0)
          exact hm.heap b o (by simp only [List.mem_cons, List.mem_singleton, List.not_mem_nil, or_false, not_or]; exact ⟨hb1, hb2⟩) (Heap.get?_push_of_some _ (Heap.get?_push_of_some _ e))

      · cases r₂ with
        | error e => exact hr₂
        | ok fl₂ =>
          cases fl₂ with
          | ret r =>
            obtain ⟨rfl, h', tk, c', rfl, hS', hc', hk'⟩ := hr₂
            repeat (any_goals (first | assumption | wp_step))
            exact h _ _ _ hS' hc' hk'
          | _ => exact hr₂.elim
    | _ => exact hr.elim
end
theorem nodup_sub_len : ∀ {as bs : List Int}, as.Nodup → (∀ a ∈ as, a ∈ bs) → as.length ≤ bs.length
  | [], _, _, _ => Nat.zero_le _
  | a :: r, bs, hn, hs => by
    obtain ⟨h1, h2⟩ := List.nodup_cons.mp hn
    have hm := hs a List.mem_cons_self
    have ih := nodup_sub_len (bs := bs.erase a) h2 fun b hb => (List.mem_erase_of_ne (fun z : b = a => h1 (by rw [← z]; exact hb))).mpr (hs b (List.mem_cons_of_mem _ hb))
    rw [List.length_erase_of_mem hm] at ih
    have hp : 0 < bs.length := List.length_pos_of_mem hm
    rw [List.length_cons]
    omega
theorem setR_few {w : World} {h : Heap} {a : Addr} {ns L : List Int} {c : Nat} (R : SetR w h a (fun j => decide (j ∈ ns)) c) (hL : ∀ j ∈ ns, j ∈ L) : c ≤ L.length := by
  obtain ⟨o, es, ep, t, ho, hex, hd, g, nd, hm, hb, hf, hn, hr, hl⟩ := R
  have h1 := nodup_sub_len nd (bs := L) fun k hk => hL k (of_decide_eq_true ((hm k).mpr hk))
  rw [List.length_map, Array.length_toList, hn] at h1
  exact h1
theorem asc_unique : ∀ {as bs : List Int}, as.Pairwise (· < ·) → bs.Pairwise (· < ·) → (∀ k, k ∈ as ↔ k ∈ bs) → as = bs
  | [], [], _, _, _ => rfl
  | [], b :: bs, _, _, h => by
    have := (h b).mpr List.mem_cons_self
    cases this
  | a :: as, [], _, _, h => by
    have := (h a).mp List.mem_cons_self
    cases this
  | a :: as, b :: bs, ha, hb, h => by
    obtain ⟨a1, a2⟩ := List.pairwise_cons.mp ha
    obtain ⟨b1, b2⟩ := List.pairwise_cons.mp hb
    have hab : a = b := by
      rcases List.mem_cons.mp ((h a).mp List.mem_cons_self) with z | z
      · exact z
      · rcases List.mem_cons.mp ((h b).mpr List.mem_cons_self) with y | y
        · exact y.symm
        · have l1 := b1 a z
          have l2 := a1 b y
          omega
    subst hab
    rw [asc_unique a2 b2 fun k => ⟨fun hk => ?_, fun hk => ?_⟩]
    · rcases List.mem_cons.mp ((h k).mp (List.mem_cons_of_mem _ hk)) with z | z
      · have := a1 k hk
        omega
      · exact z
    · rcases List.mem_cons.mp ((h k).mpr (List.mem_cons_of_mem _ hk)) with z | z
      · have := b1 k hk
        omega
      · exact z
section
variable {C : Addr} {X : Cx} {δ : Dn} {e : Expr} {pos p q pos2 : Pos}
/-- set(a list | a tuple of ints) -/
def rSetLT (X : Cx) : List V → Hp → VK → Prop := fun vs H Q => ∃ (l : Addr) (ns : List Int), vs = [.ref l] ∧ (SqL X.K H l (ns.map V.int) ∨ SqT X.K H l (ns.map V.int)) ∧ ns.length ≤ 4000 ∧
  ∀ (a : Addr) (c : Nat), H a = none → (∀ L : List Int, (∀ j ∈ ns, j ∈ L) → c ≤ L.length) → Q (.ref a) (upd H a (SetO X.w a (fun j => decide (j ∈ ns)) c))
theorem cr_setLT (hc : X.calm = true) : CallR X (.type "set") (rSetLT X) := by
  intro pins s σ H vs us Q I r h
  obtain ⟨l, ns, rfl, hq, hz, q⟩ := h
  rw [Vals.ref1 r]
  have fin : ∀ (h' : Heap) (tk c : Nat), SetR X.w h' s.heap.objs.size (fun j => decide (j ∈ ns)) c → (∀ b o, s.heap.get? b = some o → h'.get? b = some o) → EP X pins σ Q (.ref s.heap.objs.size) { s with heap := h', toks := tk } := fun h' tk c R k =>
    ⟨.ref _, upd H s.heap.objs.size (SetO X.w s.heap.objs.size (fun j => decide (j ∈ ns)) c), I.laid (t' := tk) k (Nat.le_refl _) (setO_new R), rfl, q _ c (I.hok.fresh (Nat.le_refl _)) fun L hL => setR_few R hL⟩
  rcases hq with hq | hq
  · obtain ⟨its, r, pl, hz'⟩ := I.list hq
    exact call_set_lstI ns (I.ok.hd hc) pl.isList (by simpa using RZ.intsAre_vals r) (by unfold scanBound; omega) fun h' tk c R _ k => fin h' tk c R k
  · obtain ⟨its, r, pl, hz'⟩ := I.tuple hq
    exact call_set_tupI ns (I.ok.hd hc) (show s.heap.IsTuple l its.toArray from pl) (by simpa using RZ.intsAre_vals r) (by unfold scanBound; omega) fun h' tk c R _ k => fin h' tk c R k
theorem bb_set : bootBuiltins "set" = some (.type "set") := by decide +kernel
theorem bb_sorted : bootBuiltins "sorted" = some (.builtin "sorted") := by decide +kernel
/-- sorted(set(e)) -/
theorem dl_sortedSet {x : W} {ns out : List Int} (hx : x = .l (ns.map D.int) ∨ x = .d (.tup (ns.map D.int))) (h : De C X δ e x) (hz : ns.length ≤ 4000) (ho : out.Pairwise (· < ·)) (hm : ∀ k, k ∈ out ↔ k ∈ ns) (h64 : out.length < 64) (fs : X.mg "set" = none) (fo : X.mg "sorted" = none) (hc : X.calm = true := by rfl) (hg : Gl X "set" := by rfl) (hg2 : Gl X "sorted" := by rfl)
    (he : starEach [e] X.env = (false, eval e X.env) :: starEach [] X.env := by rfl) (hpl : (backTo pos2 (starEach [] X.env)).any (·.1) = false := by rfl)
    (he2 : starEach [.Call (.Name "set" q) [e] [] pos2] X.env = (false, eval (.Call (.Name "set" q) [e] [] pos2) X.env) :: starEach [] X.env := by rfl) (hpl2 : (backTo pos (starEach [] X.env)).any (·.1) = false := by rfl) :
    Dl C X δ (.Call (.Name "sorted" p) [.Call (.Name "set" q) [e] [] pos2] [] pos) (out.map D.int) := fun σ H Q E k => by
  refine ⟨_, pe_callB (cr_sortedSet hc) hg2 fo bb_sorted (pa_cons (pe_callTy (cr_setLT hc) hg fs bb_set (pa_cons pe_w pa_nil he) (by decide) (by decide) he hpl) pa_nil he2) (by decide) (by decide) he2 hpl2, h σ H _ E fun v H1 s1 r1 => ?_⟩
  have key : ∃ l, v = .ref l ∧ (SqL X.K H1 l (ns.map V.int) ∨ SqT X.K H1 l (ns.map V.int)) := by
    rcases hx with rfl | rfl
    · obtain ⟨a, vs, rfl, hs, rs⟩ := r1
      have e := rs.int_eq
      subst e
      exact ⟨a, rfl, .inl hs⟩
    · cases r1 with
      | @tup a vs _ hs rs =>
        have e := rs.int_eq
        subst e
        exact ⟨a, rfl, .inr hs⟩
  obtain ⟨l, rfl, hq⟩ := key
  refine ⟨l, ns, rfl, hq, hz, fun a c ha hc' => ?_⟩
  have hcl : c ≤ out.length := hc' out fun j hj => (hm j).mpr hj
  refine ⟨a, _, c, rfl, upd_same, by omega, fun ns' p hp1 hp2 hp3 hp4 => ?_⟩
  have e : ns' = out := asc_unique hp1 ho fun j => by
    rw [hp2 j, hm j]
    exact decide_eq_true_iff
  subst e
  have s2 := same_new (o := SetO X.w a (fun j => decide (j ∈ ns)) c) ha
  have s3 := same_new (o := HO.lst (ns'.map V.int)) hp4
  exact k p _ _ (s1.free (s2.free hp4)) (s1.trans (s2.trans s3)) upd_same (Rps.ints _)
end
/-- who came: of the hands below 5 -/
def cameOf (hs : List Nat) : List Int := ((List.range 5).filter fun i => decide (i ∈ hs)).map fun (i : Nat) => (i : Int)
theorem cameOf_mem {hs : List Nat} (h : ∀ i ∈ hs, i < 5) (k : Int) : k ∈ cameOf hs ↔ k ∈ hs.map fun (i : Nat) => (i : Int) := by
  unfold cameOf
  constructor
  · intro z
    obtain ⟨i, hi, rfl⟩ := List.mem_map.mp z
    exact List.mem_map.mpr ⟨i, of_decide_eq_true (List.mem_filter.mp hi).2, rfl⟩
  · intro z
    obtain ⟨i, hi, rfl⟩ := List.mem_map.mp z
    exact List.mem_map.mpr ⟨i, List.mem_filter.mpr ⟨List.mem_range.mpr (h i hi), decide_eq_true hi⟩, rfl⟩
theorem cameOf_asc (hs : List Nat) : (cameOf hs).Pairwise (· < ·) := by
  unfold cameOf
  rw [List.pairwise_map]
  refine List.Pairwise.imp (fun h => by omega) (List.Pairwise.filter _ List.pairwise_lt_range)
theorem cameOf_len (hs : List Nat) : (cameOf hs).length ≤ 5 := by
  unfold cameOf
  rw [List.length_map]
  exact List.length_filter_le _ _
section
variable {P : Program} {w : World} {K : PySem.W.Frag} {mg : Str → Option Value} {base : Heap} {C : Addr}
def R_law_came : List W → W → Prop := fun ws v => ∃ (hs : List Nat) (tl : Bool), ws = [wvW tl hs] ∧ hs.length ≤ 4000 ∧ (∀ i ∈ hs, i < 5) ∧ v = .d (.tup ((cameOf hs).map D.int))
theorem ok__law_came (T : Tx K mg C) : Okf P w K mg base 1 "_law_came" (spD C K R_law_came) := by
  refine okD T.a__law_came sc__law_came bn__law_came (fun ws v ⟨_, _, h, _⟩ => h ▸ rfl) fun f cdv A outer s H E hr ws v h => ?_
  have nd := sc__law_came.nd
  obtain ⟨hs, tl, rfl, hz, h5, rfl⟩ := h
  have e : hs.map nI = (hs.map fun (i : Nat) => (i : Int)).map D.int := by rw [List.map_map]; rfl
  have l5 := cameOf_len hs
  refine ds_ret (de_callTy dc_tupL T.f_tuple (da_cons (de_of_l (dl_sortedSet (ns := hs.map fun (i : Nat) => (i : Int)) (out := cameOf hs) (by cases tl <;> simp [wvW, e]) (dv 0 rfl rfl) (by rw [List.length_map]; exact hz) (cameOf_asc hs) (cameOf_mem h5) (by omega) T.f_set T.f_sorted)) da_nil)) rfl
end
end OP

set_option Elab.async false
set_option linter.all false
set_option maxRecDepth 100000
set_option maxHeartbeats 4000000
/-! OpH1: _law_draw, _law_some -/
namespace OP
open PySem PySem.Spec PyProof.Rows L2
/-- the heap without the object at p -/
def mn (p : Addr) (H : Hp) : Hp := fun a => if a = p then none else H a
theorem mn_self {p : Addr} {H : Hp} : mn p H p = none := if_pos rfl
theorem mn_ne {p a : Addr} {H : Hp} (h : a ≠ p) : mn p H a = H a := if_neg h
theorem mn_sub {p : Addr} {H : Hp} : Same (mn p H) H := fun a o e => by
  by_cases h : a = p
  · subst h
    rw [mn_self] at e
    cases e
  · rwa [mn_ne h] at e
/-- what holds without p holds behind: H' away from p -/
theorem Same.mn {p : Addr} {H0 H : Hp} (s : Same H0 H) (h : H0 p = none) : Same H0 (mn p H) := fun a o e => by
  have ne : a ≠ p := fun z => by
    subst z
    rw [h] at e
    cases e
  rw [mn_ne ne]
  exact s a o e
/-- a hand: its list, its cells -/
structure Hnd where
  p : Addr
  c : Addr
  ns : List Int
def Hk (K : PySem.W.Frag) (H : Hp) (h : Hnd) : Prop := h.c ≠ h.p ∧ SqL K (mn h.p H) h.c (h.ns.map V.int) ∧ ∃ (i lf sd k : Int), H h.p = some (.lst [.ref h.c, .int i, .int lf, .int sd, .int k]) ∧ 0 ≤ i
structure Eh (K : PySem.W.Frag) (C p c : Addr) (ns : List Int) (H0 H : Hp) (σ : L2.St) (δ : Dn) : Prop where
  en : En K C H σ δ
  same : Same H0 H
  p0 : H0 p = none
  sp : σ[0]? = some (some (.ref p))
  hd : ∃ i lf sd k, 0 ≤ i ∧ δ[0]? = some (some (.hand ns i lf sd k)) ∧ H p = some (.lst [.ref c, .int i, .int lf, .int sd, .int k])
  cn : c ≠ p
  cs : SqL K H0 c (ns.map V.int)
  ot : ∀ (j : Nat) (w : W), j ≠ 0 → δ[j]? = some (some w) → ∃ x, w = .d x
section
variable {K : PySem.W.Frag} {C p c : Addr} {ns : List Int} {H0 H H' : Hp} {σ : L2.St} {δ : Dn}
theorem Eh.mono (E : Eh K C p c ns H0 H σ δ) (s : Same H H') : Eh K C p c ns H0 H' σ δ := ⟨E.en.mono s, E.same.trans s, E.p0, E.sp, let ⟨i, lf, sd, k, a, b, d⟩ := E.hd; ⟨i, lf, sd, k, a, b, s _ _ d⟩, E.cn, E.cs, E.ot⟩
theorem Eh.set {i : Nat} {v : V} {x : D} (E : Eh K C p c ns H0 H σ δ) (r : Rw K C H v (.d x)) (h : i ≠ 0) : Eh K C p c ns H0 H (σ.set i (some v)) (δ.set i (some (.d x))) := ⟨E.en.set r, E.same, E.p0, by rw [List.getElem?_set_ne h]; exact E.sp, let ⟨i', lf, sd, k, a, b, d⟩ := E.hd; ⟨i', lf, sd, k, a, by rw [List.getElem?_set_ne h]; exact b, d⟩, E.cn, E.cs, fun j w hj e => by
  by_cases hji : i = j
  · subst hji
    by_cases hl : i < δ.length
    · rw [List.getElem?_set_self hl] at e
      cases e
      exact ⟨x, rfl⟩
    · rw [List.getElem?_eq_none (by rw [List.length_set]; omega)] at e
      cases e
  · rw [List.getElem?_set_ne hji] at e
    exact E.ot j w hj e⟩
theorem Eh.put {i lf sd k : Int} (E : Eh K C p c ns H0 H σ δ) (hi : 0 ≤ i) : Eh K C p c ns H0 (upd H p (.lst [.ref c, .int i, .int lf, .int sd, .int k])) σ (δ.set 0 (some (.hand ns i lf sd k))) := by
  obtain ⟨i', lf', sd', k', a, b, d⟩ := E.hd
  have hk : Kt H (upd H p (.lst [.ref c, .int i, .int lf, .int sd, .int k])) := Kt.upd d
  have sm : Same H0 (upd H p (.lst [.ref c, .int i, .int lf, .int sd, .int k])) := same_mut E.same E.p0
  have hlt : 0 < δ.length := (List.getElem?_eq_some_iff.mp b).1
  refine ⟨⟨by rw [List.length_set]; exact E.en.1, fun j w e => ?_⟩, sm, E.p0, E.sp, ⟨i, lf, sd, k, hi, List.getElem?_set_self hlt, upd_same⟩, E.cn, E.cs, fun j w hj e => ?_⟩
  · by_cases hj : j = 0
    · subst hj
      rw [List.getElem?_set_self hlt] at e
      cases e
      exact ⟨_, E.sp, p, c, rfl, E.cn, SqL.of upd_same, sm.seq E.cs⟩
    · rw [List.getElem?_set_ne (Ne.symm hj)] at e
      obtain ⟨x, rfl⟩ := E.ot j w hj e
      obtain ⟨v, a, b⟩ := E.en.2 j _ e
      exact ⟨v, a, Rp.mono hk b⟩
  · rw [List.getElem?_set_ne (Ne.symm hj)] at e
    exact E.ot j w hj e
end
def Dq (C : Addr) (X : Cx) (p c : Addr) (ns : List Int) (δ : Dn) (sts : List Stmt) (nx : Dn → Prop) (rt : W → Prop) : Prop :=
  ∀ (H0 : Hp) (σ : L2.St) (H : Hp) (D : Ends), Eh X.K C p c ns H0 H σ δ → (∀ δ' σ' H', nx δ' → Eh X.K C p c ns H0 H' σ' δ' → D.nx σ' H') → (∀ w v δ' σ' H', rt w → Eh X.K C p c ns H0 H' σ' δ' → Rw X.K C H' v w → D.rt v H') → wSs X sts D σ H
section
variable {C p c : Addr} {ns : List Int} {X : Cx} {δ : Dn} {rest : List Stmt} {nx : Dn → Prop} {rt : W → Prop} {e : Expr} {pos p1 p2 p3 : Pos}
theorem dq_nil (h : nx δ) : Dq C X p c ns δ [] nx rt := fun H0 σ H D E kn kr => ⟨_, pss_nil, kn δ σ H h E⟩
theorem dq_set {i : Nat} {x : Str} {d : D} (he : De C X δ e (.d d)) (k : Dq C X p c ns (δ.set i (some (.d d))) rest nx rt) (hN : X.N.Nodup) (h0 : i ≠ 0 := by decide) (hi : X.N[i]? = some x := by rfl) (hx : Loc X.env.scope x := by first | exact Or.inl rfl | exact Or.inr rfl)
    (hs : swapsWith e (some (.Name x p1)) pos.line X.env = pure false := by rfl) (hf : X.fn x = true ∨ X.env.scope.names.lookup x = some .local := by first | exact .inl rfl | exact .inr rfl) : Dq C X p c ns δ (.Assign [.Name x p1] e pos :: rest) nx rt := fun H0 σ H D E kn kr => by
  refine wSs_cons ⟨_, ps_set hN hi hx pe_w hs hf, he σ H _ E.en fun v H1 s1 r1 => ?_⟩
  exact k H0 _ H1 D ((E.mono s1).set r1 h0) kn kr
theorem dq_if {cc : Expr} {k : Bool} {th el : List Stmt} (hc : Dt C X δ cc k) (h1 : k = true → Dq C X p c ns δ th (fun d => Dq C X p c ns d rest nx rt) rt) (h2 : k = false → Dq C X p c ns δ el (fun d => Dq C X p c ns d rest nx rt) rt) : Dq C X p c ns δ (.If cc th el pos :: rest) nx rt := fun H0 σ H D E kn kr => by
  refine wSs_cons ⟨_, ps_if pt_w pss_w pss_w, hc σ H _ E.en fun H1 s1 => ?_⟩
  cases k with
  | true => exact iteT (h1 rfl H0 σ H1 { D with nx := wSs X rest D } (E.mono s1) (fun d σ' H' z E' => z H0 σ' H' D E' kn kr) kr)
  | false => exact iteF (h2 rfl H0 σ H1 { D with nx := wSs X rest D } (E.mono s1) (fun d σ' H' z E' => z H0 σ' H' D E' kn kr) kr)
theorem dq_ret {w : W} (he : De C X δ e w) (h : rt w) : Dq C X p c ns δ (.Return (some e) pos :: rest) nx rt := fun H0 σ H D E kn kr => by
  refine wSs_cons ⟨_, ps_ret pe_w, he σ H _ E.en fun v H1 s1 r1 => ?_⟩
  exact kr w v δ σ H1 h (E.mono s1) r1
/-- hand[n] = e -/
theorem dq_put {x : Str} {n : Nat} {kk : Nat} {z i lf sd k i' lf' sd' k' : Int} (he : De C X δ e (.d (.int z))) (hδ : δ[0]? = some (some (.hand ns i lf sd k))) (hn : ixN 5 (n : Int) = some n) (hs' : ([.ref c, .int i, .int lf, .int sd, .int k] : List V).set n (.int z) = [.ref c, .int i', .int lf', .int sd', .int k']) (hi : 0 ≤ i')
    (kk' : Dq C X p c ns (δ.set 0 (some (.hand ns i' lf' sd' k'))) rest nx rt) (hN : X.N[0]? = some x := by rfl) (hv : Vis X.env.scope x := by first | exact Or.inl rfl | exact Or.inr (Or.inl rfl) | exact Or.inr (Or.inr rfl)) (hd : (x == ("__debug__" : Str)) = false := by decide) (hcd : (x == ("__classdict__" : Str)) = false := by decide)
    (hpg : PG X (.Subscript (.Name x p1) (.Constant (.int (n : Int)) kk p2) p3) (gSub (tVar 0) (tC (.int (n : Int))) rSetL) := by exact pg_sub (pe_var rfl (by first | exact Or.inl rfl | exact Or.inr (Or.inl rfl) | exact Or.inr (Or.inr rfl)) (by decide) (by decide)) pe_int set_list)
    (hs : swapsWithSole [.Subscript (.Name x p1) (.Constant (.int (n : Int)) kk p2) p3] e pos.line X.env = pure false := by rfl) (hw : swappedStores [.Subscript (.Name x p1) (.Constant (.int (n : Int)) kk p2) p3] e X.env = pure none := by rfl)
    (h1 : (assignEach [.Subscript (.Name x p1) (.Constant (.int (n : Int)) kk p2) p3] X.env).map (·.2) = [assign (.Subscript (.Name x p1) (.Constant (.int (n : Int)) kk p2) p3) X.env] := by rfl) :
    Dq C X p c ns δ (.Assign [.Subscript (.Name x p1) (.Constant (.int (n : Int)) kk p2) p3] e pos :: rest) nx rt := fun H0 σ H D E kn kr => by
  refine wSs_cons ⟨_, ps_asg pe_w hpg hs hw h1, he σ H _ E.en fun v H1 s1 r1 => ?_⟩
  cases r1
  have E1 := E.mono s1
  obtain ⟨i0, lf0, sd0, k0, a0, b0, d0⟩ := E1.hd
  rw [hδ] at b0
  cases b0
  refine ⟨.ref p, E.sp, p, _, (n : Int), n, rfl, rfl, d0, hn, ?_⟩
  rw [hs']
  exact kk' H0 σ _ D (E1.put hi) kn kr
theorem dx_h0 {i lf sd k : Int} : DX C X (.hand ns i lf sd k) (.d (.int 0)) (.l (ns.map D.int)) := ⟨_, ix_list, fun H x y Q rx ry q => by
    cases ry
    obtain ⟨p, c, rfl, hn, hs, hc⟩ := rx
    exact ⟨p, _, 0, .ref c, rfl, rfl, hs, rfl, q _ H (Same.refl H) ⟨c, _, rfl, hc, Rps.ints _⟩⟩⟩
theorem dx_h1 {i lf sd k : Int} : DX C X (.hand ns i lf sd k) (.d (.int 1)) (.d (.int i)) := ⟨_, ix_list, fun H x y Q rx ry q => by
    cases ry
    obtain ⟨p, c, rfl, hn, hs, hc⟩ := rx
    exact ⟨p, _, 1, _, rfl, rfl, hs, rfl, q _ H (Same.refl H) (.int _)⟩⟩
theorem dx_h2 {i lf sd k : Int} : DX C X (.hand ns i lf sd k) (.d (.int 2)) (.d (.int lf)) := ⟨_, ix_list, fun H x y Q rx ry q => by
    cases ry
    obtain ⟨p, c, rfl, hn, hs, hc⟩ := rx
    exact ⟨p, _, 2, _, rfl, rfl, hs, rfl, q _ H (Same.refl H) (.int _)⟩⟩
theorem dx_h3 {i lf sd k : Int} : DX C X (.hand ns i lf sd k) (.d (.int 3)) (.d (.int sd)) := ⟨_, ix_list, fun H x y Q rx ry q => by
    cases ry
    obtain ⟨p, c, rfl, hn, hs, hc⟩ := rx
    exact ⟨p, _, 3, _, rfl, rfl, hs, rfl, q _ H (Same.refl H) (.int _)⟩⟩
theorem dx_h4 {i lf sd k : Int} : DX C X (.hand ns i lf sd k) (.d (.int 4)) (.d (.int k)) := ⟨_, ix_list, fun H x y Q rx ry q => by
    cases ry
    obtain ⟨p, c, rfl, hn, hs, hc⟩ := rx
    exact ⟨p, _, 4, _, rfl, rfl, hs, rfl, q _ H (Same.refl H) (.int _)⟩⟩
theorem dr_mod {i j : Int} (h : 0 < j) : DR C X (binaryOp .Mod) (.d (.int i)) (.d (.int j)) (.d (.int (i % j))) := dr_intC (d := fun i j => .int (i % j)) op_mod (fun i j H => .int _) h
theorem dr_fdiv {i j : Int} (h : CDiv i j) : DR C X (binaryOp .FloorDiv) (.d (.int i)) (.d (.int j)) (.d (.int (i / j))) := dr_intC (d := fun i j => .int (i / j)) op_fdiv (fun i j H => .int _) h
theorem dr_pow {i j : Int} (h : CPow i j) : DR C X (binaryOp .Pow) (.d (.int i)) (.d (.int j)) (.d (.int (i ^ j.toNat))) := dr_intC (d := fun i j => .int (i ^ j.toNat)) op_pow (fun i j H => .int _) h
theorem dc_int {i : Int} : DC C X (.type "int") [.d (.int i)] (.d (.int i)) := ⟨_, call_int1, fun H vs Q r q => by
  cases r with
  | cons r1 t =>
    cases t
    cases r1
    exact .inl ⟨i, rfl, q _ H (Same.refl H) (.int _)⟩⟩
theorem dc_abs {i : Int} : DC C X (.builtin "abs") [.d (.int i)] (.d (.int (if i < 0 then -i else i))) := ⟨_, call_abs, fun H vs Q r q => by
  cases r with
  | cons r1 t =>
    cases t
    cases r1
    exact ⟨i, rfl, q _ H (Same.refl H) (.int _)⟩⟩
theorem bb_abs : bootBuiltins "abs" = some (.builtin "abs") := by decide +kernel
end
section
variable {P : Program} {w : World} {K : PySem.W.Frag} {mg : Str → Option Value} {base : Heap} {C : Addr}
def spDraw (K : PySem.W.Frag) : Sp := fun vs H Q _ => ∃ (h : Hnd) (m : Int), vs = [.ref h.p, .int m] ∧ 0 < m ∧ m < 1073741824 ∧ Hk K H h ∧ ∀ (d : Int) (H' : Hp), 0 ≤ d → d < m → Same (mn h.p H) H' → Hk K H' h → Q (.int d) H'
theorem ixn {n : Nat} (h : n < 5) : ixN 5 (n : Int) = some n := by
  match n, h with
  | 0, _ => rfl
  | 1, _ => rfl
  | 2, _ => rfl
  | 3, _ => rfl
  | 4, _ => rfl
theorem ok_draw (T : Tx K mg C) : Okf P w K mg base 1 "_law_draw" (spDraw K) := by
  obtain ⟨f, fd, hm, F⟩ := T.a__law_draw
  have nd := sc__law_draw.nd
  refine ⟨f, fd, ["_law_hand_here", "_law_many"], hm, F.kp, F.ok sc__law_draw (fun vs H Q E h => ?_) (fun cdv A outer s H vs Q E hr h => ?_), bn__law_draw fd f F⟩
  · obtain ⟨p, m, rfl, _⟩ := h
    rfl
  obtain ⟨⟨p, c, ns⟩, m, rfl, hm0, hm1, ⟨hcn, hcs, i, lf, sd, k, hp, hi⟩, q⟩ := h
  refine ⟨wSs (bx P w K mg base n__law_draw "_law_draw" (topS 113) f cdv A outer s H E) (defBody (topS 113)), pss_w, ?_⟩
  have E0 : Eh K C p c ns (mn p H) H (L2.start n__law_draw [.ref p, .int m]) [some (.hand ns i lf sd k), some (.d (.int m)), none, none, none] := by
    refine ⟨⟨rfl, fun j w e => ?_⟩, mn_sub, mn_self, rfl, ⟨i, lf, sd, k, hi, rfl, hp⟩, hcn, hcs, fun j w hj e => ?_⟩
    · match j, e with
      | 0, e => cases e; exact ⟨_, rfl, p, c, rfl, hcn, SqL.of hp, mn_sub.seq hcs⟩
      | 1, e => cases e; exact ⟨_, rfl, .int _⟩
      | 2, e => cases e
      | 3, e => cases e
      | 4, e => cases e
      | n + 5, e => cases e
    · match j, e with
      | 0, e => exact absurd rfl hj
      | 1, e => cases e; exact ⟨_, rfl⟩
      | 2, e => cases e
      | 3, e => cases e
      | 4, e => cases e
      | n + 5, e => cases e
  have low : ∀ {x : Int}, 0 ≤ x % 2147483647 ∧ x % 2147483647 < 2147483647 := fun {x} => ⟨Int.emod_nonneg _ (by decide), Int.emod_lt_of_pos _ (by decide)⟩
  have md : ∀ {x : Int}, 0 ≤ x % m ∧ x % m < m := fun {x} => ⟨Int.emod_nonneg _ (by omega), Int.emod_lt_of_pos _ hm0⟩
  have tail : ∀ (i lf sd k : Int) (a : Option W), 0 ≤ i → Dq C (bx P w K mg base n__law_draw "_law_draw" (topS 113) f cdv A outer s H E) p c ns [some (.hand ns i lf sd k), some (.d (.int m)), none, a, none] ((defBody (topS 113)).drop 1) (fun _ => False) (fun w => ∃ d, 0 ≤ d ∧ d < m ∧ w = .d (.int d)) := fun i lf sd k a hi => by
    refine dq_if (dt_cmp dr_gt (de_ix dx_h2 (dv 0 rfl rfl) de_int) de_int) (fun hk => ?_) fun hk => ?_
    · refine dq_set (i := 4) (d := .int (lf % m)) (de_bin (dr_mod hm0) (de_callTy dc_int T.f_int (da_cons (de_ix dx_h2 (dv 0 rfl rfl) de_int) da_nil)) (dv 1 rfl rfl)) ?_ nd
      refine dq_put (n := 2) (lf' := lf / m) (de_bin (dr_fdiv ⟨hm0, hm1⟩) (de_ix dx_h2 (dv 0 rfl rfl) de_int) (dv 1 rfl rfl)) rfl (ixn (by decide)) rfl hi ?_
      exact dq_ret (dv 4 rfl rfl) ⟨lf % m, md.1, md.2, rfl⟩
    · refine dq_nil (dq_put (n := 4) (k' := k + 1) (de_bin dr_add (de_ix dx_h4 (dv 0 rfl rfl) de_int) de_int) rfl (ixn (by decide)) rfl hi ?_)
      refine dq_set (i := 2) (d := .int ((sd + 7919 * (k + 1)) * 48271 % 2147483647)) (de_bin (dr_mod (by decide)) (de_callTy dc_int T.f_int (da_cons (de_bin (dr_mul (.inr ⟨by decide, by decide⟩)) (de_callTy dc_int T.f_int (da_cons (de_bin dr_add (de_ix dx_h3 (dv 0 rfl rfl) de_int) (de_bin (dr_mul (.inl ⟨by decide, by decide⟩)) de_int (de_ix dx_h4 (dv 0 rfl rfl) de_int))) da_nil)) de_int) da_nil)) de_int) ?_ nd
      have l1 := low (x := (sd + 7919 * (k + 1)) * 48271)
      generalize (sd + 7919 * (k + 1)) * 48271 % 2147483647 = n1 at l1 ⊢
      refine dq_set (i := 2) (d := .int (n1 * (n1 / 1009 + 69621) % 2147483647)) (de_bin (dr_mod (by decide)) (de_callTy dc_int T.f_int (da_cons (de_bin (dr_mul (.inl ⟨by omega, by omega⟩)) (dv 2 rfl rfl) (de_bin dr_add (de_bin (dr_fdiv ⟨by decide, by decide⟩) (dv 2 rfl rfl) de_int) de_int)) da_nil)) de_int) ?_ nd
      have l2 := low (x := n1 * (n1 / 1009 + 69621))
      generalize n1 * (n1 / 1009 + 69621) % 2147483647 = n2 at l2 ⊢
      refine dq_set (i := 2) (d := .int (n2 * (n2 / 2003 + 40692) % 2147483399)) (de_bin (dr_mod (by decide)) (de_callTy dc_int T.f_int (da_cons (de_bin (dr_mul (.inl ⟨by omega, by omega⟩)) (dv 2 rfl rfl) (de_bin dr_add (de_bin (dr_fdiv ⟨by decide, by decide⟩) (dv 2 rfl rfl) de_int) de_int)) da_nil)) de_int) ?_ nd
      generalize n2 * (n2 / 2003 + 40692) % 2147483399 = n3
      exact dq_ret (de_bin (dr_mod hm0) (de_callTy dc_int T.f_int (da_cons (de_bin (dr_fdiv ⟨by decide, by decide⟩) (dv 2 rfl rfl) de_int) da_nil)) (dv 1 rfl rfl)) ⟨n3 / 16 % m, md.1, md.2, rfl⟩
  have main : Dq C (bx P w K mg base n__law_draw "_law_draw" (topS 113) f cdv A outer s H E) p c ns [some (.hand ns i lf sd k), some (.d (.int m)), none, none, none] (defBody (topS 113)) (fun _ => False) (fun w => ∃ d, 0 ≤ d ∧ d < m ∧ w = .d (.int d)) := by
    refine dq_if (Dw.t (dw_and (dt_cmp dr_eqI (de_ix dx_h2 (dv 0 rfl rfl) de_int) de_int) fun _ => dw_and1 (dt_cmp dr_lt (de_ix dx_h1 (dv 0 rfl rfl) de_int) ((de_callB dc_lenL T.f_len (da_cons (de_ix dx_h0 (dv 0 rfl rfl) de_int) da_nil)))))) (fun hk => ?_) fun hk => ?_
    · rw [Bool.and_eq_true, decide_eq_true_eq, decide_eq_true_eq, List.length_map] at hk
      obtain ⟨j, rfl⟩ := Int.eq_ofNat_of_zero_le hi
      have hj : j < ns.length := by omega
      have hat : atI (ns.map D.int) ((j : Nat) : Int) = some (.int ns[j]) := atI_map D.int (List.getElem?_eq_getElem hj)
      refine dq_set (i := 3) (d := .int ns[j]) (de_ix (dx_l hat) (de_ix dx_h0 (dv 0 rfl rfl) de_int) (de_ix dx_h1 (dv 0 rfl rfl) de_int)) ?_ nd
      refine dq_put (n := 1) (i' := (j : Int) + 1) (de_bin dr_add (de_ix dx_h1 (dv 0 rfl rfl) de_int) de_int) rfl (ixn (by decide)) rfl (by omega) ?_
      refine dq_put (n := 3) (sd' := (sd * 69621 + ns[j] + 11) % 2147483629) (de_bin (dr_mod (by decide)) (de_callTy dc_int T.f_int (da_cons (de_bin dr_add (de_bin dr_add (de_bin (dr_mul (.inr ⟨by decide, by decide⟩)) (de_ix dx_h3 (dv 0 rfl rfl) de_int) de_int) (dv 3 rfl rfl)) de_int) da_nil)) de_int) rfl (ixn (by decide)) rfl (by omega) ?_
      refine dq_if (dt_cmp dr_ge (dv 3 rfl rfl) (de_bin (dr_pow ⟨by decide, by decide, by decide⟩) de_int de_int)) (fun h2 => ?_) fun h2 => ?_
      · exact dq_put (n := 2) (lf' := ns[j]) (dv 3 rfl rfl) rfl (ixn (by decide)) rfl (by omega) (dq_nil (dq_nil (tail _ _ _ _ _ (by omega))))
      · exact dq_nil (dq_nil (tail _ _ _ _ _ (by omega)))
    · exact dq_nil (tail _ _ _ _ _ hi)
  refine main (mn p H) _ H _ E0 (fun δ' σ' H' z E' => z.elim) fun w v δ' σ' H' z E' r => ?_
  obtain ⟨d, hd0, hd1, rfl⟩ := z
  cases r
  obtain ⟨i', lf', sd', k', a, b, e⟩ := E'.hd
  exact q d H' hd0 hd1 E'.same ⟨hcn, (Same.mn E'.same mn_self).seq hcs, i', lf', sd', k', e, a⟩
end
end OP

set_option Elab.async false
set_option linter.all false
set_option maxRecDepth 100000
set_option maxHeartbeats 4000000
/-! OpH2: _law_some; expressions with draws -/
namespace OP
open PySem PySem.Spec PyProof.Rows L2
theorem raw_eq {K : PySem.W.Frag} {C : Addr} {H : Hp} {v u : V} (h : Rw K C H v (.d (.raw u))) : v = u := by
  cases h
  rfl
theorem Rps.raws {K : PySem.W.Frag} {C : Addr} {H : Hp} : ∀ xs : List V, Rps K C H xs (xs.map D.raw)
  | [] => .nil
  | x :: r => .cons (.raw x) (Rps.raws r)
/-- all but lists is kept by what keeps the rest -/
theorem kt_mn {p : Addr} {H H' : Hp} {xs : List V} (h : H p = some (.lst xs)) (s : Same (mn p H) H') : Kt H H' := fun a o n e => by
  have ne : a ≠ p := fun z => by
    subst z
    rw [h] at e
    cases e
    exact n
  exact s a o (by rw [mn_ne ne]; exact e)
theorem kt_to {p : Addr} {H : Hp} {xs : List V} (h : H p = some (.lst xs)) : Kt H (mn p H) := kt_mn h (Same.refl _)
theorem Hk.lst {K : PySem.W.Frag} {H : Hp} {h : Hnd} (k : Hk K H h) : ∃ xs, H h.p = some (.lst xs) := by
  obtain ⟨_, _, i, lf, sd, k, a, _⟩ := k
  exact ⟨_, a⟩
theorem Hk.mono {K : PySem.W.Frag} {H H' : Hp} {h : Hnd} (k : Hk K H h) (s : Same H H') : Hk K H' h := by
  obtain ⟨a, b, i, lf, sd, k, d, e⟩ := k
  exact ⟨a, (Same.mn (mn_sub.trans s) mn_self).seq b, i, lf, sd, k, s _ _ d, e⟩
theorem same_mn {p : Addr} {H H' : Hp} (s : Same H H') : Same (mn p H) (mn p H') := Same.mn (mn_sub.trans s) mn_self
/-- a list made since is written -/
theorem Hk.write {K : PySem.W.Frag} {H1 H : Hp} {h : Hnd} {l : Addr} {o : HO} (k1 : Hk K H1 h) (k : Hk K H h) (hl : H1 l = none) (s : Same (mn h.p H1) (mn h.p H)) : Hk K (upd H l o) h ∧ Same (mn h.p H1) (mn h.p (upd H l o)) := by
  obtain ⟨a, b, _, _, _, _, d1, _⟩ := k1
  obtain ⟨_, _, i, lf, sd, k, d, e⟩ := k
  have lp : l ≠ h.p := fun z => by
    rw [z, d1] at hl
    cases hl
  have hm : mn h.p H1 l = none := by rw [mn_ne lp]; exact hl
  have s2 : Same (mn h.p H1) (mn h.p (upd H l o)) := Same.mn (same_mut (s.trans mn_sub) hm) mn_self
  exact ⟨⟨a, s2.seq b, i, lf, sd, k, by rw [upd_ne (Ne.symm lp)]; exact d, e⟩, s2⟩
section
variable {P : Program} {w : World} {K : PySem.W.Frag} {mg : Str → Option Value} {base : Heap} {C : Addr}
def spSome (K : PySem.W.Frag) : Sp := fun vs H Q _ => ∃ (h : Hnd) (a : Addr) (xs : List V), vs = [.ref h.p, .ref a] ∧ Hk K H h ∧ SqL K (mn h.p H) a xs ∧ xs ≠ [] ∧ xs.length < 1000000 ∧ ∀ v ∈ xs, ∀ (H' : Hp), Same (mn h.p H) (mn h.p H') → Hk K H' h → Q v H'
theorem ok_some (T : Tx K mg C) : Okf P w K mg base 2 "_law_some" (spSome K) := by
  obtain ⟨f, fd, hm, F⟩ := T.a__law_some
  have nd := sc__law_some.nd
  refine ⟨f, fd, ["_law_hand_here", "_law_things"], hm, F.kp, F.ok sc__law_some (fun vs H Q E h => ?_) (fun cdv A outer s H vs Q E hr h => ?_), bn__law_some fd f F⟩
  · obtain ⟨hh, a, xs, rfl, _⟩ := h
    rfl
  obtain ⟨hh, a, xs, rfl, hk, hs, hne, hz, q⟩ := h
  have hl : 0 < xs.length := List.length_pos_iff.mpr hne
  refine ⟨wSs (bx P w K mg base n__law_some "_law_some" (topS 114) f cdv A outer s H E) (defBody (topS 114)), pss_w, ?_⟩
  have E0 : En K C H (L2.start n__law_some [.ref hh.p, .ref a]) [some (.d (.raw (.ref hh.p))), some (.l (xs.map D.raw))] := by
    refine ⟨rfl, fun j w e => ?_⟩
    match j, e with
    | 0, e => cases e; exact ⟨_, rfl, .raw _⟩
    | 1, e => cases e; exact ⟨_, rfl, a, xs, rfl, mn_sub.seq hs, Rps.raws xs⟩
    | n + 2, e => cases e
  have hargs : Da C (bx P w K mg base n__law_some "_law_some" (topS 114) f cdv A outer s H E) [some (.d (.raw (.ref hh.p))), some (.l (xs.map D.raw))] (match (defBody (topS 114)).getD 0 (.Pass ⟨0, 0, 0, 0⟩) with | .Return (some (.Subscript _ (.Call _ es _ _) _)) _ => es | _ => []) [.d (.raw (.ref hh.p)), .d (.int (xs.length : Nat))] :=
    (da_cons ((dv 0 rfl rfl)) (da_cons (De.is (de_callB dc_lenL T.f_len (da_cons ((dv 1 rfl rfl)) da_nil)) (by rw [List.length_map])) da_nil))
  refine wSs_cons ⟨_, ps_ret pe_w, ⟨_, pe_ix ix_list (pe_var (i := 1) rfl (.inl rfl) (by decide) (by decide)) pe_w (fun _ _ => rfl), .ref a, rfl, ?_⟩⟩
  refine wE_call (ok_draw T) hr ?_
  refine hargs _ H _ E0 fun vs H1 s1 r1 => ?_
  cases r1 with
  | cons ra t =>
    cases t with
    | cons rb t =>
      cases t
      obtain rfl := raw_eq ra
      cases rb
      refine ⟨hh, _, rfl, by omega, by omega, hk.mono s1, fun d H' h0 h1 s2 h2 => ?_⟩
      obtain ⟨j, rfl⟩ := Int.eq_ofNat_of_zero_le h0
      have hj : j < xs.length := by omega
      have s12 : Same (mn hh.p H) (mn hh.p H') := (same_mn s1).trans (Same.mn s2 mn_self)
      exact ⟨a, xs, _, xs[j], rfl, rfl, mn_sub.seq (s12.seq hs), atI_nat (List.getElem?_eq_getElem hj), q _ (List.getElem_mem hj) H' s12 h2⟩
end
/-! ### expressions with draws -/
section
variable (C : Addr) (X : Cx) (h : Hnd) (δ : Dn)
def Dh (e : Expr) (R : D → Prop) : Prop := ∀ (σ : L2.St) (H : Hp) (Q : VK), En X.K C (mn h.p H) σ δ → Hk X.K H h → (∀ v d H', R d → Same (mn h.p H) (mn h.p H') → Hk X.K H' h → Rp X.K C H' v d → Q v H') → wE X e σ H Q
/-- a new list -/
def Dlh (e : Expr) (R : List D → Prop) : Prop := ∀ (σ : L2.St) (H : Hp) (Q : VK), En X.K C (mn h.p H) σ δ → Hk X.K H h → (∀ l vs ds H', H l = none → R ds → Same (mn h.p H) (mn h.p H') → Hk X.K H' h → H' l = some (.lst vs) → Rps X.K C H' vs ds → Q (.ref l) H') → wE X e σ H Q
def Dah (es : List Expr) (R : List D → Prop) : Prop := ∀ (σ : L2.St) (H : Hp) (Q : List V → Hp → Prop), En X.K C (mn h.p H) σ δ → Hk X.K H h → (∀ vs ds H', R ds → Same (mn h.p H) (mn h.p H') → Hk X.K H' h → Rps X.K C H' vs ds → Q vs H') → wA X es σ H Q
def Dth (e : Expr) (R : Bool → Prop) : Prop := ∀ (σ : L2.St) (H : Hp) (Q : Bool → Hp → Prop), En X.K C (mn h.p H) σ δ → Hk X.K H h → (∀ b H', R b → Same (mn h.p H) (mn h.p H') → Hk X.K H' h → Q b H') → wT X e σ H Q
def Dwh (e : Expr) (R : Bool → Prop) : Prop := ∀ (σ : L2.St) (H : Hp) (Q : Bool → Hp → Prop), En X.K C (mn h.p H) σ δ → Hk X.K H h → (∀ b H', R b → Same (mn h.p H) (mn h.p H') → Hk X.K H' h → Q b H') → wW X e σ H Q
def Dtsh (es : List Expr) (R : Bool → Prop) : Prop := ∀ (σ : L2.St) (H : Hp) (Q : Bool → Hp → Prop), En X.K C (mn h.p H) σ δ → Hk X.K H h → (∀ b H', R b → Same (mn h.p H) (mn h.p H') → Hk X.K H' h → Q b H') → wTs X es σ H Q
end
section
variable {C : Addr} {X : Cx} {h : Hnd} {δ : Dn} {a b c e : Expr} {es : List Expr} {pos p1 p2 p3 : Pos}
theorem dh_of {d : D} {R : D → Prop} (he0 : De C X δ e (.d d)) (r : R d) : Dh C X h δ e R := fun σ H Q E k q => he0 σ H Q (E.mono mn_sub) fun v H' s r1 => q v d H' r (same_mn s) (k.mono s) r1
theorem dlh_of {xs : List D} {R : List D → Prop} (he0 : Dl C X δ e xs) (r : R xs) : Dlh C X h δ e R := fun σ H Q E k q => he0 σ H Q (E.mono mn_sub) fun l vs H' hl s h1 r1 => q l vs xs H' hl r (same_mn s) (k.mono s) h1 r1
theorem dth_of {x : Bool} {R : Bool → Prop} (he0 : Dt C X δ e x) (r : R x) : Dth C X h δ e R := fun σ H Q E k q => he0 σ H Q (E.mono mn_sub) fun H' s => q x H' r (same_mn s) (k.mono s)
theorem dah_nil {R : List D → Prop} (r : R []) : Dah C X h δ [] R := fun σ H Q E k q => ⟨_, pa_nil, q _ [] H r (Same.refl _) k .nil⟩
theorem dah_cons {S : D → Prop} {R : List D → Prop} (he0 : Dh C X h δ e S) (hr : ∀ d, S d → Dah C X h δ es fun ds => R (d :: ds)) (hs : starEach (e :: es) X.env = (false, eval e X.env) :: starEach es X.env := by rfl) : Dah C X h δ (e :: es) R := fun σ H Q E k q => by
  refine ⟨_, pa_cons pe_w pa_w hs, he0 σ H _ E k fun v d H1 r1 s1 k1 rv => ?_⟩
  refine hr d r1 σ H1 _ (E.mono s1) k1 fun vs ds H2 r2 s2 k2 rs => ?_
  obtain ⟨xs, hx⟩ := k1.lst
  exact q _ (d :: ds) H2 r2 (s1.trans s2) k2 (.cons (rv.mono (kt_mn hx (s2.trans mn_sub))) rs)
theorem dlh_lst {R : List D → Prop} (he0 : Dah C X h δ es R) (hz : ∀ ds, R ds → ds.length ≤ 100000) : Dlh C X h δ (.List es pos) R := fun σ H Q E k q => by
  refine ⟨_, pe_lst pa_w, he0 σ H _ E k fun vs ds H1 r1 s1 k1 rs => ?_⟩
  refine ⟨by rw [rs.length]; exact szl (hz ds r1), fun l hl => ?_⟩
  have sn := same_new (o := .lst vs) hl
  have hlp : l ≠ h.p := fun z => by
    obtain ⟨xs, hx⟩ := k1.lst
    rw [z, hx] at hl
    cases hl
  have h0 : H l = none := by
    cases e0 : H l with
    | none => rfl
    | some o =>
      have := mn_sub _ _ (s1 l o (by rw [mn_ne hlp]; exact e0))
      rw [hl] at this
      cases this
  exact q l vs ds _ h0 r1 (s1.trans (same_mn sn)) (k1.mono sn) upd_same (rs.mono (.of sn))
/-- hand, e -/
theorem dh_draw {T : Tx X.K X.mg C} {i k : Nat} {x : Str} {m : Int} (hr : Room k X.A) (he : De C X δ e (.d (.int m))) (h0 : 0 < m) (h1 : m < 1073741824) (hδ : δ[i]? = some (some (.d (.raw (.ref h.p))))) (hk : 1 ≤ k := by decide) (hN : X.N[i]? = some x := by rfl) (hv : Vis X.env.scope x := by first | exact Or.inl rfl | exact Or.inr (Or.inl rfl) | exact Or.inr (Or.inr rfl)) (hd : (x == ("__debug__" : Str)) = false := by decide) (hcd : (x == ("__classdict__" : Str)) = false := by decide)
    (hs1 : starEach [.Name x p1, e] X.env = (false, eval (.Name x p1) X.env) :: starEach [e] X.env := by rfl) (hs2 : starEach [e] X.env = (false, eval e X.env) :: starEach [] X.env := by rfl) (hpl : (backTo pos (starEach [e] X.env)).any (·.1) = false := by rfl) (hg : Gl X "_law_draw" := by rfl) :
    Dh C X h δ (.Call (.Name "_law_draw" p2) [.Name x p1, e] [] pos) (fun d => ∃ z : Int, 0 ≤ z ∧ z < m ∧ d = .int z) := fun σ H Q E k q => by
  refine wE_call (ok_draw T) (hr.mono hk) ?_ hg (by decide) hs1 hpl
  have ha : Da C X δ [.Name x p1, e] [.d (.raw (.ref h.p)), .d (.int m)] := da_cons (de_var hN hv hδ hd hcd) (da_cons he da_nil hs2) hs1
  refine ha σ H _ (E.mono mn_sub) fun vs H1 s1 r1 => ?_
  cases r1 with
  | cons ra t =>
    cases t with
    | cons rb t =>
      cases t
      obtain rfl := raw_eq ra
      cases rb
      exact ⟨h, m, rfl, h0, h1, k.mono s1, fun d H' z0 z1 s2 k2 => q _ (.int d) H' ⟨d, z0, z1, rfl⟩ ((same_mn s1).trans (Same.mn s2 mn_self)) k2 (.int d)⟩
/-- one of a list in a slot -/
theorem dh_someV {T : Tx X.K X.mg C} {i j k : Nat} {x y : Str} {xs : List D} (hr : Room k X.A) (hδ : δ[i]? = some (some (.d (.raw (.ref h.p))))) (hj : δ[j]? = some (some (.l xs))) (hne : xs ≠ []) (hz : xs.length < 1000000) (hk : 2 ≤ k := by decide)
    (hN : X.N[i]? = some x := by rfl) (hv : Vis X.env.scope x := by first | exact Or.inl rfl | exact Or.inr (Or.inl rfl) | exact Or.inr (Or.inr rfl)) (hd : (x == ("__debug__" : Str)) = false := by decide) (hcd : (x == ("__classdict__" : Str)) = false := by decide)
    (hN2 : X.N[j]? = some y := by rfl) (hv2 : Vis X.env.scope y := by first | exact Or.inl rfl | exact Or.inr (Or.inl rfl) | exact Or.inr (Or.inr rfl)) (hd2 : (y == ("__debug__" : Str)) = false := by decide) (hcd2 : (y == ("__classdict__" : Str)) = false := by decide)
    (hs1 : starEach [.Name x p1, .Name y p3] X.env = (false, eval (.Name x p1) X.env) :: starEach [.Name y p3] X.env := by rfl) (hs2 : starEach [.Name y p3] X.env = (false, eval (.Name y p3) X.env) :: starEach [] X.env := by rfl) (hpl : (backTo pos (starEach [.Name y p3] X.env)).any (·.1) = false := by rfl) (hg : Gl X "_law_some" := by rfl) :
    Dh C X h δ (.Call (.Name "_law_some" p2) [.Name x p1, .Name y p3] [] pos) (fun d => d ∈ xs) := fun σ H Q E k q => by
  obtain ⟨v1, e1, r1⟩ := E.2 i _ hδ
  have ev : v1 = .ref h.p := by cases r1; rfl
  subst ev
  obtain ⟨v2, e2, l, us, rfl, hs, rs⟩ := E.2 j _ hj
  refine wE_call (ok_some T) (hr.mono hk) ⟨_, pa_cons (pe_var hN hv hd hcd) (pa_cons (pe_var hN2 hv2 hd2 hcd2) pa_nil hs2) hs1, .ref h.p, e1, .ref l, e2, ?_⟩ hg (by decide) hs1 hpl
  refine ⟨h, l, us, rfl, k, hs, fun z => hne ?_, by rw [rs.length]; exact hz, fun v hv' H' s2 k2 => ?_⟩
  · subst z
    cases rs
    rfl
  · obtain ⟨n, hn⟩ := List.getElem?_of_mem hv'
    obtain ⟨d, hd', rd⟩ := rs.at hn
    exact q v d H' (List.mem_of_getElem? hd') s2 k2 (rd.mono (.of (s2.trans mn_sub)))
/-- one of a new list -/
theorem dh_someL {T : Tx X.K X.mg C} {i k : Nat} {x : Str} {S : D → Prop} {R : List D → Prop} (hr : Room k X.A) (hδ : δ[i]? = some (some (.d (.raw (.ref h.p))))) (he : Dlh C X h δ e R) (hR : ∀ ds, R ds → ds ≠ [] ∧ ds.length < 1000000 ∧ ∀ d ∈ ds, S d) (hk : 2 ≤ k := by decide)
    (hN : X.N[i]? = some x := by rfl) (hv : Vis X.env.scope x := by first | exact Or.inl rfl | exact Or.inr (Or.inl rfl) | exact Or.inr (Or.inr rfl)) (hd : (x == ("__debug__" : Str)) = false := by decide) (hcd : (x == ("__classdict__" : Str)) = false := by decide)
    (hs1 : starEach [.Name x p1, e] X.env = (false, eval (.Name x p1) X.env) :: starEach [e] X.env := by rfl) (hs2 : starEach [e] X.env = (false, eval e X.env) :: starEach [] X.env := by rfl) (hpl : (backTo pos (starEach [e] X.env)).any (·.1) = false := by rfl) (hg : Gl X "_law_some" := by rfl) :
    Dh C X h δ (.Call (.Name "_law_some" p2) [.Name x p1, e] [] pos) S := fun σ H Q E k q => by
  obtain ⟨v1, e1, r1⟩ := E.2 i _ hδ
  have ev : v1 = .ref h.p := by cases r1; rfl
  subst ev
  refine wE_call (ok_some T) (hr.mono hk) ⟨_, pa_cons (pe_var hN hv hd hcd) (pa_cons pe_w pa_nil hs2) hs1, .ref h.p, e1, ?_⟩ hg (by decide) hs1 hpl
  refine he σ H _ E k fun l us ds H1 hl rds s1 k1 h1 rs => ?_
  obtain ⟨n1, n2, n3⟩ := hR ds rds
  have hlp : l ≠ h.p := fun z => by
    obtain ⟨xs, hx⟩ := k.lst
    rw [z, hx] at hl
    cases hl
  refine ⟨h, l, us, rfl, k1, SqL.of (by rw [mn_ne hlp]; exact h1), fun z => n1 ?_, by rw [rs.length]; exact n2, fun v hv' H' s2 k2 => ?_⟩
  · subst z
    cases rs
    rfl
  · obtain ⟨n, hn⟩ := List.getElem?_of_mem hv'
    obtain ⟨d, hd', rd⟩ := rs.at hn
    obtain ⟨xs, hx⟩ := k1.lst
    exact q v d H' (n3 d (List.mem_of_getElem? hd')) (s1.trans s2) k2 (rd.mono (kt_mn hx (s2.trans mn_sub)))
/-! tests -/
theorem dth_cmp {op : CmpOp} {S : D → Prop} {R : Bool → Prop} {y : D} (ha : Dh C X h δ a S) (hb : De C X δ b (.d y)) (r : ∀ d, S d → ∃ k, R k ∧ DR C X (compareOp op) (.d d) (.d y) (.d (.bl k))) (hm : behindInMarks op b = false := by rfl) (ho : ∃ r : R2, OpR X (compareOp op) r ∧ ∀ d, S d → ∃ k, R k ∧ ∀ (H : Hp) (x y' : V) (Q : VK), Rw X.K C H x (.d d) → Rw X.K C H y' (.d y) → (∀ v H', Same H H' → Rw X.K C H' v (.d (.bl k)) → Q v H') → r x y' H Q) : Dth C X h δ (.Compare a [op] [b] pos) R := fun σ H Q E k q => by
  obtain ⟨rr, ho, hrr⟩ := ho
  refine ⟨_, pt_cmpR ho pe_w pe_w hm, ?_⟩
  refine ha σ H _ E k fun v d H1 r1 s1 k1 rv => ?_
  refine hb σ H1 _ ((E.mono s1).mono mn_sub) fun u H2 s2 r2 => ?_
  obtain ⟨kk, rk, hq⟩ := hrr d r1
  refine hq H2 v u _ (Rp.mono (.of s2) rv) r2 fun z H3 s3 r3 => ?_
  cases r3
  exact ⟨kk, rfl, q kk H3 rk (s1.trans (same_mn (s2.trans s3))) (k1.mono (s2.trans s3))⟩
theorem dth_eq0 {S : D → Prop} {y : Int} (ha : Dh C X h δ a S) (hS : ∀ d, S d → ∃ z : Int, d = .int z) (hb : De C X δ b (.d (.int y))) (hm : behindInMarks .Eq b = false := by rfl) : Dth C X h δ (.Compare a [.Eq] [b] pos) (fun _ => True) := fun σ H Q E k q => by
  refine ⟨_, pt_cmpR op_eq pe_w pe_w hm, ?_⟩
  refine ha σ H _ E k fun v d H1 r1 s1 k1 rv => ?_
  refine hb σ H1 _ ((E.mono s1).mono mn_sub) fun u H2 s2 r2 => ?_
  obtain ⟨z, rfl⟩ := hS d r1
  cases rv
  cases r2
  exact ⟨rfl, _, rfl, q _ H2 trivial (s1.trans (same_mn s2)) (k1.mono s2)⟩
theorem dwh_and1 {R : Bool → Prop} (he0 : Dth C X h δ a R) : Dwh C X h δ (.BoolOp .And [a] pos) R := fun σ H Q E k q => ⟨_, pw_and1 pt_w, he0 σ H Q E k q⟩
theorem dwh_or1 {R : Bool → Prop} (he0 : Dth C X h δ a R) : Dwh C X h δ (.BoolOp .Or [a] pos) R := fun σ H Q E k q => ⟨_, pw_or1 pt_w, he0 σ H Q E k q⟩
theorem dwh_and {rest : List Expr} {S R : Bool → Prop} (he0 : Dth C X h δ a S) (h0 : S false → R false) (hr : S true → Dwh C X h δ (.BoolOp .And (b :: rest) pos) R) : Dwh C X h δ (.BoolOp .And (a :: b :: rest) pos) R := fun σ H Q E k q => by
  refine ⟨_, pw_and pt_w pw_w, he0 σ H _ E k fun x H1 rx s1 k1 => ?_⟩
  cases x with
  | false => exact iteF (q false H1 (h0 rx) s1 k1)
  | true => exact iteT (hr rx σ H1 Q (E.mono s1) k1 fun y H2 ry s2 k2 => q y H2 ry (s1.trans s2) k2)
theorem dwh_or {rest : List Expr} {S R : Bool → Prop} (he0 : Dth C X h δ a S) (h0 : S true → R true) (hr : S false → Dwh C X h δ (.BoolOp .Or (b :: rest) pos) R) : Dwh C X h δ (.BoolOp .Or (a :: b :: rest) pos) R := fun σ H Q E k q => by
  refine ⟨_, pw_or pt_w pw_w, he0 σ H _ E k fun x H1 rx s1 k1 => ?_⟩
  cases x with
  | true => exact iteT (q true H1 (h0 rx) s1 k1)
  | false => exact iteF (hr rx σ H1 Q (E.mono s1) k1 fun y H2 ry s2 k2 => q y H2 ry (s1.trans s2) k2)
theorem Dwh.t {R : Bool → Prop} (he0 : Dwh C X h δ e R) : Dth C X h δ e R := fun σ H Q E k q => ⟨_, pw_w.pt, he0 σ H Q E k q⟩
theorem dtsh_nil : Dtsh C X h δ [] (fun b => b = true) := fun σ H Q E k q => ⟨_, pts_nil, q true H rfl (Same.refl _) k⟩
theorem dtsh_one {R : Bool → Prop} (he0 : Dth C X h δ e R) : Dtsh C X h δ [e] R := fun σ H Q E k q => ⟨_, pts_one pt_w, he0 σ H Q E k q⟩
/-! ### a comprehension with draws -/
theorem dlh_lc {α : Type} {j : Nat} {x : Str} {elt tg iter : Expr} {ifs : List Expr} {scope : Scope} {xs : List α} (enc : α → D) (Pv : Nat → List D → Prop) (ok : BlkOk X.N X.env.scope scope [(x, j)])
    (hg : ∀ (s : Shared) (H : Hp) (Cc : Addr) (cl : List (Str × Addr)) (fp : List Addr), PG (X.blk s H scope (compEnvC scope cl Cc X.env) fp) tg (gName j))
    (hi : Di true C X δ tg iter (xs.map fun z => .d (enc z))) (h0 : Pv 0 [])
    (step : ∀ (i : Nat) (z : α), xs[i]? = some z → ∃ (S : Bool → Prop) (R : D → Prop),
      (∀ (s : Shared) (H : Hp) (Cc : Addr) (cl : List (Str × Addr)) (fp : List Addr), Dtsh C (X.blk s H scope (compEnvC scope cl Cc X.env) fp) h ((wipeD δ [j]).set j (some (.d (enc z)))) ifs S) ∧
      (S true → ∀ (s : Shared) (H : Hp) (Cc : Addr) (cl : List (Str × Addr)) (fp : List Addr), Dh C (X.blk s H scope (compEnvC scope cl Cc X.env) fp) h ((wipeD δ [j]).set j (some (.d (enc z)))) elt R) ∧
      (∀ ds, S false → Pv i ds → Pv (i + 1) ds) ∧ (∀ ds d, S true → R d → Pv i ds → Pv (i + 1) (ds ++ [d])))
    (hP : ∀ i ds, Pv i ds → ds.length ≤ i) (hz : xs.length ≤ 50000) (hN : X.N.Nodup) (hc : X.calm = true := by rfl) (hs : ∀ x, foldedSetIterable iter X.env x = pure x := by intro _; rfl) :
    Dlh C X h δ (.ListComp elt [⟨tg, iter, ifs, 0⟩] scope pos) (Pv xs.length) := fun σ H Q E k q => by
  refine ⟨_, pe_lc (own := [(x, j)]) hc hN pi_w ok hg pts_ttB pe_teB hs, ?_⟩
  refine hi σ H _ (E.mono mn_sub) fun J H1 s1 wk => fun L hL => ?_
  obtain ⟨G, g1, gk, wk⟩ := wk
  have E1 := E.mono (same_mn (p := h.p) s1)
  have k1 := k.mono s1
  obtain ⟨xs1, hx1⟩ := k1.lst
  have hLp : L ≠ h.p := fun z => by
    rw [z, hx1] at hL
    cases hL
  rw [List.length_map] at wk
  refine lc_it wk (fun i Hc => Same (mn h.p H1) (mn h.p Hc) ∧ Hk X.K Hc h ∧ ∃ acc ds, Hc L = some (.lst acc) ∧ Pv i ds ∧ Rps X.K C Hc acc ds) ⟨same_mn (same_new hL), k1.mono (same_new hL), [], [], upd_same, h0, .nil⟩ (fun i Hc _ w => gk _ _ g1 (kt_mn hx1 (w.1.trans mn_sub))) (fun i v Hc H' hi' w y => ?_) fun Hc w => ?_
  · obtain ⟨sc, kc, acc, ds, hacc, hds, rs⟩ := w
    obtain ⟨sy, w, hw, rw_⟩ := y
    rw [List.getElem?_map] at hw
    have hx : xs[i]? = some xs[i] := List.getElem?_eq_getElem hi'
    rw [hx] at hw
    cases hw
    obtain ⟨S, R, dt, de, p0, p1⟩ := step i xs[i] hx
    have ky := kc.mono sy
    obtain ⟨xs', hx'⟩ := ky.lst
    have E' : En X.K C (mn h.p H') ((wipe σ [j]).set j (some v)) ((wipeD δ [j]).set j (some (.d (enc xs[i])))) := ((E1.mono (sc.trans (same_mn sy))).wipe [j]).set (w := .d _) (Rp.mono (kt_to hx') rw_)
    refine ⟨?_, ?_⟩
    · show wipe ((wipe σ [j]).set j (some v)) [j] = wipe σ [j]
      rw [wipe_set (i := j) _ (by simp), wipe_idem]
    intro s H0 Cc cl fp
    have s13 := sc.trans (same_mn sy)
    refine dt s H0 Cc cl fp _ H' _ E' ky fun b H3 rb s3 k3 => ?_
    have hL' : H' L = some (.lst acc) := sy _ _ hacc
    have hL3 : H3 L = some (.lst acc) := mn_sub _ _ (s3 _ _ (by rw [mn_ne hLp]; exact hL'))
    cases b with
    | false => exact iteF ⟨s13.trans s3, k3, acc, ds, hL3, p0 ds rb hds, (rs.mono (.of sy)).mono (kt_mn hx' (s3.trans mn_sub))⟩
    | true =>
      refine iteT ?_
      intro s' H0' Cc' cl' fp'
      refine de rb s' H0' Cc' cl' fp' _ H3 _ (E'.mono s3) k3 fun y d H4 rd s4 k4 ry => ?_
      have hL4 : H4 L = some (.lst acc) := mn_sub _ _ (s4 _ _ (by rw [mn_ne hLp]; exact hL3))
      have s14 := s13.trans (s3.trans s4)
      obtain ⟨kw, sw⟩ := Hk.write (H := H4) (o := .lst (acc ++ [y])) k1 k4 hL s14
      have rs4 : Rps X.K C H4 acc ds := ((rs.mono (.of sy)).mono (kt_mn hx' ((s3.trans s4).trans mn_sub)))
      have la := rs.length
      have lp := hP i ds hds
      exact ⟨acc, hL4, szlt (by omega), sw, kw, acc ++ [y], ds ++ [d], upd_same, p1 ds d rb rd hds, (rs4.app (.cons ry .nil)).mono (Kt.upd hL4)⟩
  · obtain ⟨sc, kc, acc, ds, hacc, hds, rs⟩ := w
    have h0L : H L = none := s1.free hL
    exact q L acc ds Hc h0L hds ((same_mn s1).trans sc) kc hacc rs
end
end OP

set_option Elab.async false
set_option linter.all false
set_option maxRecDepth 100000
set_option maxHeartbeats 4000000
/-! OpH3: statements with draws -/
namespace OP
open PySem PySem.Spec PyProof.Rows L2
def mnl (p : Addr) (as : List (Nat × Addr)) (H : Hp) : Hp := fun a => if a = p ∨ a ∈ as.map (·.2) then none else H a
theorem mnl_ne {p a : Addr} {as : List (Nat × Addr)} {H : Hp} (h : ¬ (a = p ∨ a ∈ as.map (·.2))) : mnl p as H a = H a := if_neg h
theorem mnl_some {p a : Addr} {as : List (Nat × Addr)} {H : Hp} {o : HO} (h : mnl p as H a = some o) : ¬ (a = p ∨ a ∈ as.map (·.2)) ∧ H a = some o := by
  unfold mnl at h
  split at h
  · cases h
  · exact ⟨‹_›, h⟩
theorem mnl_mn {p : Addr} {as : List (Nat × Addr)} {H : Hp} : Same (mnl p as H) (mn p H) := fun a o e => by
  obtain ⟨h, e⟩ := mnl_some e
  rw [mn_ne fun z => h (.inl z)]
  exact e
theorem mnl_sub {p : Addr} {as : List (Nat × Addr)} {H : Hp} : Same (mnl p as H) H := mnl_mn.trans mn_sub
theorem same_mnl {p : Addr} {as : List (Nat × Addr)} {H H' : Hp} (s : Same (mn p H) (mn p H')) : Same (mnl p as H) (mnl p as H') := fun a o e => by
  obtain ⟨h, e⟩ := mnl_some e
  rw [mnl_ne h]
  exact mn_sub _ _ (s _ _ (by rw [mn_ne fun z => h (.inl z)]; exact e))
structure Eo (K : PySem.W.Frag) (C : Addr) (h : Hnd) (A : List (Nat × Addr)) (H0 H : Hp) (σ : L2.St) (δ : Dn) : Prop where
  len : σ.length = δ.length
  base : ∀ (j : Nat) (w : W), j ∉ A.map (·.1) → δ[j]? = some (some w) → ∃ v, σ[j]? = some (some v) ∧ Rw K C (mnl h.p A H) v w
  own : ∀ (j : Nat) (a : Addr), (j, a) ∈ A → ∃ xs vs, δ[j]? = some (some (.l xs)) ∧ σ[j]? = some (some (.ref a)) ∧ H a = some (.lst vs) ∧ Rps K C H vs xs
  ne : ∀ (j : Nat) (a : Addr), (j, a) ∈ A → a ≠ h.p ∧ H0 a = none
  uq : ∀ (j j' : Nat) (a : Addr), (j, a) ∈ A → (j', a) ∈ A → j = j'
  k0 : Hk K H0 h
  hk : Hk K H h
  same : Same (mn h.p H0) (mn h.p H)
section
variable {K : PySem.W.Frag} {C : Addr} {h : Hnd} {A : List (Nat × Addr)} {H0 H H' : Hp} {σ : L2.St} {δ : Dn}
theorem Eo.kt (E : Eo K C h A H0 H σ δ) : Kt H (mnl h.p A H) := fun a o n e => by
  rw [mnl_ne]
  · exact e
  · rintro (z | z)
    · obtain ⟨xs, hx⟩ := E.hk.lst
      rw [z, hx] at e
      cases e
      exact n
    · obtain ⟨⟨j, a'⟩, hm, rfl⟩ := List.mem_map.mp z
      obtain ⟨xs, vs, _, _, e2, _⟩ := E.own j a' hm
      rw [e2] at e
      cases e
      exact n
theorem Eo.en (E : Eo K C h A H0 H σ δ) : En K C (mn h.p H) σ δ := ⟨E.len, fun j w e => by
  by_cases hj : j ∈ A.map (·.1)
  · obtain ⟨⟨j', a⟩, hm, rfl⟩ := List.mem_map.mp hj
    obtain ⟨xs, vs, e1, e2, e3, e4⟩ := E.own j' a hm
    have e1 : δ[j']? = some (some (.l xs)) := e1
    rw [e1] at e
    cases e
    exact ⟨.ref a, e2, a, vs, rfl, SqL.of (by rw [mn_ne (E.ne j' a hm).1]; exact e3), e4.mono (E.kt.trans (.of mnl_mn))⟩
  · obtain ⟨v, e1, e2⟩ := E.base j w hj e
    exact ⟨v, e1, e2.mono mnl_mn⟩⟩
theorem Eo.enH (E : Eo K C h A H0 H σ δ) : En K C H σ δ := E.en.mono mn_sub
theorem Eo.draw (E : Eo K C h A H0 H σ δ) (s : Same (mn h.p H) (mn h.p H')) (k : Hk K H' h) : Eo K C h A H0 H' σ δ := ⟨E.len, fun j w hj e => by
  obtain ⟨v, e1, e2⟩ := E.base j w hj e
  exact ⟨v, e1, e2.mono (same_mnl s)⟩, fun j a hm => by
  obtain ⟨xs, vs, e1, e2, e3, e4⟩ := E.own j a hm
  obtain ⟨us, hu⟩ := E.hk.lst
  exact ⟨xs, vs, e1, e2, mn_sub _ _ (s _ _ (by rw [mn_ne (E.ne j a hm).1]; exact e3)), e4.mono (kt_mn hu (s.trans mn_sub))⟩, E.ne, E.uq, E.k0, k, E.same.trans s⟩
theorem Eo.mono (E : Eo K C h A H0 H σ δ) (s : Same H H') : Eo K C h A H0 H' σ δ := E.draw (same_mn s) (E.hk.mono s)
theorem Eo.setW {i : Nat} {v : V} {w : W} (E : Eo K C h A H0 H σ δ) (r : Rw K C (mnl h.p A H) v w) (hi : i ∉ A.map (·.1)) : Eo K C h A H0 H (σ.set i (some v)) (δ.set i (some w)) := ⟨by rw [List.length_set, List.length_set]; exact E.len, fun j u hj e => by
  by_cases hij : i = j
  · subst hij
    by_cases hl : i < δ.length
    · rw [List.getElem?_set_self hl] at e
      cases e
      exact ⟨v, List.getElem?_set_self (E.len ▸ hl), r⟩
    · rw [List.getElem?_eq_none (by rw [List.length_set]; omega)] at e
      cases e
  · rw [List.getElem?_set_ne hij] at e
    rw [List.getElem?_set_ne hij]
    exact E.base j u hj e, fun j a hm => by
  obtain ⟨xs, vs, e1, e2, e3, e4⟩ := E.own j a hm
  have hij : i ≠ j := fun z => hi (z ▸ List.mem_map.mpr ⟨(j, a), hm, rfl⟩)
  exact ⟨xs, vs, by rw [List.getElem?_set_ne hij]; exact e1, by rw [List.getElem?_set_ne hij]; exact e2, e3, e4⟩, E.ne, E.uq, E.k0, E.hk, E.same⟩
theorem Eo.set {i : Nat} {v : V} {d : D} (E : Eo K C h A H0 H σ δ) (r : Rp K C H v d) (hi : i ∉ A.map (·.1)) : Eo K C h A H0 H (σ.set i (some v)) (δ.set i (some (.d d))) := E.setW (w := .d d) (r.mono E.kt) hi
/-- a list that was not there is not one of ours -/
theorem Eo.fresh {l : Addr} (E : Eo K C h A H0 H σ δ) (hl : H l = none) : ¬ (l = h.p ∨ l ∈ A.map (·.2)) := by
  rintro (z | z)
  · obtain ⟨xs, hx⟩ := E.hk.lst
    rw [z, hx] at hl
    cases hl
  · obtain ⟨⟨j, a'⟩, hm, rfl⟩ := List.mem_map.mp z
    obtain ⟨xs, vs, _, _, e2, _⟩ := E.own j a' hm
    rw [e2] at hl
    cases hl
theorem Eo.weak {δ' : Dn} (E : Eo K C h A H0 H σ δ) (hl : δ'.length = δ.length) (hw : ∀ (i : Nat) (w : W), i ∉ A.map (·.1) → δ'[i]? = some (some w) → δ[i]? = some (some w)) (ho : ∀ i, i ∈ A.map (·.1) → δ'[i]? = δ[i]?) : Eo K C h A H0 H σ δ' := ⟨E.len.trans hl.symm, fun j w hj e => E.base j w hj (hw j w hj e), fun j a hm => by
  obtain ⟨xs, vs, e1, e2, e3, e4⟩ := E.own j a hm
  exact ⟨xs, vs, by rw [ho j (List.mem_map.mpr ⟨(j, a), hm, rfl⟩)]; exact e1, e2, e3, e4⟩, E.ne, E.uq, E.k0, E.hk, E.same⟩
/-- one of our lists grows -/
theorem Eo.grow {i : Nat} {f : Addr} {xs : List D} {us : List V} {ys : List D} (E : Eo K C h A H0 H σ δ) (hm : (i, f) ∈ A) (hδ : δ[i]? = some (some (.l xs))) (r : Rps K C H us ys) : ∃ vs, H f = some (.lst vs) ∧ vs.length = xs.length ∧ σ[i]? = some (some (.ref f)) ∧ Eo K C h A H0 (upd H f (.lst (vs ++ us))) σ (δ.set i (some (.l (xs ++ ys)))) := by
  obtain ⟨xs', vs, e1, e2, e3, e4⟩ := E.own i f hm
  rw [hδ] at e1
  cases e1
  refine ⟨vs, e3, e4.length, e2, ?_⟩
  have hk : Kt H (upd H f (.lst (vs ++ us))) := Kt.upd e3
  obtain ⟨kw, sw⟩ := Hk.write (o := .lst (vs ++ us)) E.k0 E.hk (E.ne i f hm).2 E.same
  have hlt : i < δ.length := (List.getElem?_eq_some_iff.mp hδ).1
  have sb : Same (mnl h.p A H) (mnl h.p A (upd H f (.lst (vs ++ us)))) := fun a o e => by
    obtain ⟨n, e⟩ := mnl_some e
    rw [mnl_ne n, upd_ne]
    · exact e
    · intro z
      exact n (.inr (List.mem_map.mpr ⟨(i, f), hm, z.symm⟩))
  refine ⟨by rw [List.length_set]; exact E.len, fun j w hj e => ?_, fun j a hm' => ?_, E.ne, E.uq, E.k0, kw, sw⟩
  · have hij : i ≠ j := fun z => hj (z ▸ List.mem_map.mpr ⟨(i, f), hm, rfl⟩)
    rw [List.getElem?_set_ne hij] at e
    obtain ⟨v, a, b⟩ := E.base j w hj e
    exact ⟨v, a, b.mono sb⟩
  · by_cases hij : i = j
    · subst hij
      obtain ⟨xs2, vs2, d1, d2, d3, d4⟩ := E.own i a hm'
      rw [e2] at d2
      cases d2
      exact ⟨_, _, List.getElem?_set_self hlt, e2, upd_same, (e4.app r).mono hk⟩
    · obtain ⟨xs2, vs2, d1, d2, d3, d4⟩ := E.own j a hm'
      have ha : a ≠ f := fun z => hij (E.uq i j f hm (z ▸ hm'))
      exact ⟨xs2, vs2, by rw [List.getElem?_set_ne hij]; exact d1, d2, by rw [upd_ne ha]; exact d3, d4.mono hk⟩
end
/-- without our lists -/
def wo (A : List (Nat × Addr)) (H : Hp) : Hp := fun a => if a ∈ A.map (·.2) then none else H a
theorem wo_ne {A : List (Nat × Addr)} {H : Hp} {a : Addr} (h : a ∉ A.map (·.2)) : wo A H a = H a := if_neg h
theorem wo_some {A : List (Nat × Addr)} {H : Hp} {a : Addr} {o : HO} (h : wo A H a = some o) : a ∉ A.map (·.2) ∧ H a = some o := by
  unfold wo at h
  split at h
  · cases h
  · exact ⟨‹_›, h⟩
theorem wo_sub {A : List (Nat × Addr)} {H : Hp} : Same (wo A H) H := fun a o e => (wo_some e).2
theorem Eo.rebase {K : PySem.W.Frag} {C : Addr} {h : Hnd} {A : List (Nat × Addr)} {H0 H : Hp} {σ : L2.St} {δ : Dn} (E : Eo K C h A H0 H σ δ) : Eo K C h A (wo A H) H σ δ ∧ ∀ (σ' : L2.St) (δ' : Dn) (H' : Hp), Eo K C h A (wo A H) H' σ' δ' → Eo K C h A H0 H' σ' δ' ∧ Kt H H' := by
  have hp : h.p ∉ A.map (·.2) := fun z => by
    obtain ⟨⟨j, a⟩, hm, e⟩ := List.mem_map.mp z
    exact (E.ne j a hm).1 e
  have s0 : Same (mn h.p H0) (mn h.p (wo A H)) := fun a o e => by
    have ha : a ≠ h.p := fun z => by
      rw [z, mn_self] at e
      cases e
    have hn : a ∉ A.map (·.2) := fun z => by
      obtain ⟨⟨j, a'⟩, hm, ee⟩ := List.mem_map.mp z
      rw [mn_ne ha, ← ee, (E.ne j a' hm).2] at e
      cases e
    have e2 := E.same a o e
    rw [mn_ne ha] at e2
    rw [mn_ne ha, wo_ne hn]
    exact e2
  have k0 : Hk K (wo A H) h := by
    obtain ⟨a, b, _⟩ := E.k0
    obtain ⟨_, _, i, lf, sd, k, d, e⟩ := E.hk
    exact ⟨a, s0.seq b, i, lf, sd, k, by rw [wo_ne hp]; exact d, e⟩
  refine ⟨⟨E.len, E.base, E.own, fun j a hm => ⟨(E.ne j a hm).1, if_pos (List.mem_map.mpr ⟨(j, a), hm, rfl⟩)⟩, E.uq, k0, E.hk, same_mn wo_sub⟩, fun σ' δ' H' E' => ⟨⟨E'.len, E'.base, E'.own, E.ne, E.uq, E.k0, E'.hk, s0.trans E'.same⟩, fun a o n e => ?_⟩⟩
  have hn : a ∉ A.map (·.2) := fun z => by
    obtain ⟨⟨j, a'⟩, hm, ee⟩ := List.mem_map.mp z
    obtain ⟨xs, vs, _, _, e2, _⟩ := E.own j a' hm
    have ee : a' = a := ee
    rw [ee, e] at e2
    cases e2
    exact n
  have ha : a ≠ h.p := fun z => by
    obtain ⟨xs, hx⟩ := E.hk.lst
    rw [z, hx] at e
    cases e
    exact n
  exact mn_sub _ _ (E'.same a o (by rw [mn_ne ha, wo_ne hn]; exact e))
def Dm (C : Addr) (X : Cx) (h : Hnd) (A : List (Nat × Addr)) (δ : Dn) (sts : List Stmt) (Z : Hp → Ends → Prop) : Prop := ∀ (H0 : Hp) (σ : L2.St) (H : Hp) (D : Ends), Eo X.K C h A H0 H σ δ → Z H0 D → wSs X sts D σ H
def Zn (C : Addr) (X : Cx) (h : Hnd) (A : List (Nat × Addr)) (nx : Dn → Prop) : Hp → Ends → Prop := fun H0 D => ∀ δ' σ' H', nx δ' → Eo X.K C h A H0 H' σ' δ' → D.nx σ' H'
/-- a def's end -/
def Zr (C : Addr) (X : Cx) (h : Hnd) (rt : D → Prop) : Hp → Ends → Prop := fun H0 D => ∀ v d H', rt d → Same (mn h.p H0) (mn h.p H') → Hk X.K H' h → Rp X.K C H' v d → D.rt v H'
section
variable {C : Addr} {X : Cx} {h : Hnd} {A : List (Nat × Addr)} {δ : Dn} {rest : List Stmt} {Z : Hp → Ends → Prop} {e : Expr} {pos p p1 p2 p3 : Pos}
theorem dm_nil {nx : Dn → Prop} (hn : nx δ) : Dm C X h A δ [] (Zn C X h A nx) := fun H0 σ H D E z => ⟨_, pss_nil, z δ σ H hn E⟩
theorem dm_set {i : Nat} {x : Str} {d : D} (he : De C X δ e (.d d)) (k : Dm C X h A (δ.set i (some (.d d))) rest Z) (hN : X.N.Nodup) (hA : i ∉ A.map (·.1) := by simp) (hi : X.N[i]? = some x := by rfl) (hx : Loc X.env.scope x := by first | exact Or.inl rfl | exact Or.inr rfl)
    (hs : swapsWith e (some (.Name x p)) pos.line X.env = pure false := by rfl) (hf : X.fn x = true ∨ X.env.scope.names.lookup x = some .local := by first | exact .inl rfl | exact .inr rfl) : Dm C X h A δ (.Assign [.Name x p] e pos :: rest) Z := fun H0 σ H D E z => by
  refine wSs_cons ⟨_, ps_set hN hi hx pe_w hs hf, he σ H _ E.enH fun v H1 s1 r1 => ?_⟩
  exact k H0 _ H1 D ((E.mono s1).set r1 hA) z
theorem dm_setH {i : Nat} {x : Str} {R : D → Prop} (he : Dh C X h δ e R) (k : ∀ d, R d → Dm C X h A (δ.set i (some (.d d))) rest Z) (hN : X.N.Nodup) (hA : i ∉ A.map (·.1) := by simp) (hi : X.N[i]? = some x := by rfl) (hx : Loc X.env.scope x := by first | exact Or.inl rfl | exact Or.inr rfl)
    (hs : swapsWith e (some (.Name x p)) pos.line X.env = pure false := by rfl) (hf : X.fn x = true ∨ X.env.scope.names.lookup x = some .local := by first | exact .inl rfl | exact .inr rfl) : Dm C X h A δ (.Assign [.Name x p] e pos :: rest) Z := fun H0 σ H D E z => by
  refine wSs_cons ⟨_, ps_set hN hi hx pe_w hs hf, he σ H _ E.en E.hk fun v d H1 rd s1 k1 r1 => ?_⟩
  exact k d rd H0 _ H1 D ((E.draw s1 k1).set r1 hA) z
/-- x = a new list -/
theorem dm_setl {i : Nat} {x : Str} {xs : List D} (he : Dl C X δ e xs) (k : Dm C X h A (δ.set i (some (.l xs))) rest Z) (hN : X.N.Nodup) (hA : i ∉ A.map (·.1) := by simp) (hi : X.N[i]? = some x := by rfl) (hx : Loc X.env.scope x := by first | exact Or.inl rfl | exact Or.inr rfl)
    (hs : swapsWith e (some (.Name x p)) pos.line X.env = pure false := by rfl) (hf : X.fn x = true ∨ X.env.scope.names.lookup x = some .local := by first | exact .inl rfl | exact .inr rfl) : Dm C X h A δ (.Assign [.Name x p] e pos :: rest) Z := fun H0 σ H D E z => by
  refine wSs_cons ⟨_, ps_set hN hi hx pe_w hs hf, he σ H _ E.enH fun l vs H1 hl s1 h1 r1 => ?_⟩
  have E1 := E.mono s1
  exact k H0 _ H1 D (E1.setW (w := .l xs) ⟨l, vs, rfl, SqL.of (by rw [mnl_ne (E.fresh hl)]; exact h1), r1.mono E1.kt⟩ hA) z
theorem dm_if {c : Expr} {k : Bool} {th el : List Stmt} (hc : Dt C X δ c k) (h1 : k = true → Dm C X h A δ th (Zn C X h A fun d => Dm C X h A d rest Z)) (h2 : k = false → Dm C X h A δ el (Zn C X h A fun d => Dm C X h A d rest Z)) : Dm C X h A δ (.If c th el pos :: rest) Z := fun H0 σ H D E z => by
  refine wSs_cons ⟨_, ps_if pt_w pss_w pss_w, hc σ H _ E.enH fun H1 s1 => ?_⟩
  cases k with
  | true => exact iteT (h1 rfl H0 σ H1 { D with nx := wSs X rest D } (E.mono s1) fun d σ' H' zz E' => zz H0 σ' H' D E' z)
  | false => exact iteF (h2 rfl H0 σ H1 { D with nx := wSs X rest D } (E.mono s1) fun d σ' H' zz E' => zz H0 σ' H' D E' z)
theorem dm_skip {c : Expr} {th : List Stmt} (hc : Dt C X δ c false) (k : Dm C X h A δ rest Z) : Dm C X h A δ (.If c th [] pos :: rest) Z := dm_if hc (fun z => nomatch z) fun _ => dm_nil k
theorem dm_ifH {c : Expr} {R : Bool → Prop} {th el : List Stmt} (hc : Dth C X h δ c R) (h1 : R true → Dm C X h A δ th (Zn C X h A fun d => Dm C X h A d rest Z)) (h2 : R false → Dm C X h A δ el (Zn C X h A fun d => Dm C X h A d rest Z)) : Dm C X h A δ (.If c th el pos :: rest) Z := fun H0 σ H D E z => by
  refine wSs_cons ⟨_, ps_if pt_w pss_w pss_w, hc σ H _ E.en E.hk fun k H1 rk s1 k1 => ?_⟩
  cases k with
  | true => exact iteT (h1 rk H0 σ H1 { D with nx := wSs X rest D } (E.draw s1 k1) fun d σ' H' zz E' => zz H0 σ' H' D E' z)
  | false => exact iteF (h2 rk H0 σ H1 { D with nx := wSs X rest D } (E.draw s1 k1) fun d σ' H' zz E' => zz H0 σ' H' D E' z)
theorem dm_ret {rt : D → Prop} {d : D} (he : De C X δ e (.d d)) (hd : rt d) : Dm C X h A δ (.Return (some e) pos :: rest) (Zr C X h rt) := fun H0 σ H D E z => by
  refine wSs_cons ⟨_, ps_ret pe_w, he σ H _ E.enH fun v H1 s1 r1 => ?_⟩
  have E1 := E.mono s1
  exact z v d H1 hd E1.same E1.hk r1
theorem dm_app {i : Nat} {f : Addr} {x : Str} {xs : List D} {d : D} {apos cpos : Pos} (hm : (i, f) ∈ A) (hδ : δ[i]? = some (some (.l xs))) (he : De C X δ e (.d d)) (hz : xs.length < 100000) (k : Dm C X h A (δ.set i (some (.l (xs ++ [d])))) rest Z) (hi : X.N[i]? = some x := by rfl) (hv : Vis X.env.scope x := by first | exact Or.inl rfl | exact Or.inr (Or.inl rfl) | exact Or.inr (Or.inr rfl))
    (hd : (x == ("__debug__" : Str)) = false := by decide) (hcd : (x == ("__classdict__" : Str)) = false := by decide)
    (hp : PE X (.Call (.Attribute (.Name x p) "append" apos) [e] [] cpos) (tBM X.K "list" rAppend (tVar i) (tCons (wE X e) tNil)) := by exact pe_bm PySem.F.plainAttrs_list PySem.F.slot_list_append PySem.F.type_list_append mt_append (pe_var rfl (by first | exact Or.inl rfl | exact Or.inr (Or.inl rfl) | exact Or.inr (Or.inr rfl)) (by decide) (by decide)) (pa_cons pe_w pa_nil))
    (hs : swapsWith (.Call (.Attribute (.Name x p) "append" apos) [e] [] cpos) none pos.line X.env = pure false := by rfl) :
    Dm C X h A δ (.Expr (.Call (.Attribute (.Name x p) "append" apos) [e] [] cpos) pos :: rest) Z := fun H0 σ H D E z => by
  refine wSs_cons ⟨_, ps_expr hp hs, ?_⟩
  obtain ⟨xs', vs, e1, e2, e3, e4⟩ := E.own i f hm
  refine ⟨.ref f, e2, .inl ⟨rfl, vs, SqL.of e3⟩, ?_⟩
  refine he σ H _ E.enH fun v H1 s1 r1 => ?_
  obtain ⟨vs2, g1, g2, g3, g4⟩ := (E.mono s1).grow hm hδ (us := [v]) (ys := [d]) (.cons r1 .nil)
  exact ⟨f, vs2, v, rfl, rfl, g1, szlt (by rw [g2]; exact hz), k H0 σ _ D g4 z⟩
/-- for name in range(..) | a tuple -/
theorem dm_for {α : Type} {i : Nat} {enc : α → D} {xs : List α} {tg iter : Expr} {body : List Stmt} (hi : Di true C X δ tg iter (xs.map fun z => .d (enc z))) (hg : PG X tg (gName i)) (I : Nat → Dn → Prop) (h0 : I 0 δ)
    (step : ∀ (t : Nat) (z : α) (δ' : Dn), xs[t]? = some z → I t δ' → Dm C X h A (δ'.set i (some (.d (enc z)))) body (Zn C X h A (I (t + 1)))) (done : ∀ δ', I xs.length δ' → Dm C X h A δ' rest Z) (hA : i ∉ A.map (·.1) := by simp)
    (hp : PassesOwn (model X.prog X.w) X.A X.env X.xe := by exact PassesOwn.never) (hc : X.calm = true := by rfl) (hs : ∀ x, foldedSetIterable iter X.env x = pure x := by intro _; rfl) : Dm C X h A δ (.For tg iter body [] pos :: rest) Z := fun H0 σ H D E z => by
  refine wSs_cons ⟨_, ps_for hp hc pi_w hg pss_w hs, hi σ H _ E.enH fun J H1 s1 wk => ?_⟩
  obtain ⟨G, g1, gk, wk⟩ := wk
  rw [List.length_map] at wk
  have k1 := E.hk.mono s1
  obtain ⟨us, hu⟩ := k1.lst
  refine for_it wk (fun t σ Hc => ∃ δ', I t δ' ∧ Eo X.K C h A H0 Hc σ δ' ∧ Kt H1 Hc) ⟨δ, h0, E.mono s1, Kt.refl H1⟩ (fun t σ Hc _ ⟨δ', _, _, k⟩ => gk _ _ g1 k) (fun t x σ Hc H' ht w y => ?_) fun σ Hc ⟨δ', iw, E', _⟩ => done δ' iw H0 σ Hc D E' z
  obtain ⟨δ', iw, Ec, kc⟩ := w
  obtain ⟨sy, w, hw, rw_⟩ := y
  rw [List.getElem?_map] at hw
  have hx : xs[t]? = some xs[t] := List.getElem?_eq_getElem ht
  rw [hx] at hw
  cases hw
  have Ey := Ec.mono sy
  obtain ⟨Er, back⟩ := Ey.rebase
  refine step t xs[t] δ' hx iw (wo A H') _ H' _ (Er.set rw_ hA) fun d σ3 H3 zz E3 => ?_
  obtain ⟨E4, k4⟩ := back _ _ _ E3
  exact ⟨d, zz, E4, kc.trans ((Kt.of sy).trans k4)⟩
end
end OP

set_option Elab.async false
set_option linter.all false
set_option maxRecDepth 100000
set_option maxHeartbeats 4000000
/-! OpH4: _law_hand, _law_inputs -/
namespace OP
open PySem PySem.Spec PyProof.Rows L2
section
variable {C : Addr} {X : Cx} {h : Hnd} {δ : Dn} {e : Expr} {pos p p1 p2 p3 : Pos}
/-- tuple(a new list) -/
theorem dh_tuple {R : List D → Prop} (he : Dlh C X h δ e R) (hm : X.mg "tuple" = none) (hg : Gl X "tuple" := by rfl) (hs : starEach [e] X.env = (false, eval e X.env) :: starEach [] X.env := by rfl) (hpl : (backTo pos (starEach [] X.env)).any (·.1) = false := by rfl) :
    Dh C X h δ (.Call (.Name "tuple" p) [e] [] pos) (fun d => ∃ ds, R ds ∧ d = .tup ds) := fun σ H Q E k q => by
  refine ⟨_, pe_callTy call_tuple_of hg hm bb_tuple (pa_cons pe_w pa_nil hs) (by decide) (by decide) hs hpl, he σ H _ E k fun l vs ds H1 hl rd s1 k1 h1 rs => ?_⟩
  refine ⟨l, vs, rfl, .inl ⟨SqL.of h1, fun t ht => ?_⟩⟩
  have s := same_new (o := .tup vs) ht
  exact q _ (.tup ds) _ ⟨ds, rd, rfl⟩ (s1.trans (same_mn s)) (k1.mono s) (.tup (SqT.of upd_same) (rs.mono (.of s)))
end
theorem cutD_map {α : Type} (f : α → D) (xs : List α) (lo hi : Option Int) : ∃ ys : List α, cutD (xs.map f) lo hi = ys.map f ∧ ys.length ≤ xs.length := by
  refine ⟨(xs.drop (HT.sIx xs.length 0 lo)).take (HT.sIx xs.length xs.length hi - HT.sIx xs.length 0 lo), ?_, ?_⟩
  · unfold cutD
    rw [List.length_map, List.map_take, List.map_drop]
  · rw [List.length_take, List.length_drop]
    omega
section
variable {P : Program} {w : World} {K : PySem.W.Frag} {mg : Str → Option Value} {base : Heap} {C : Addr}
def spHand (K : PySem.W.Frag) : Sp := fun vs H Q _ => ∃ (l : Addr) (ns : List Int), vs = [.ref l] ∧ SqL K H l (ns.map V.int) ∧ ns.length ≤ 1000 ∧ ∀ (h : Hnd) (H' : Hp), Same H H' → H h.p = none → Hk K H' h → Q (.ref h.p) H'
theorem ok_hand (T : Tx K mg C) : Okf P w K mg base 1 "_law_hand" (spHand K) := by
  obtain ⟨f, fd, hm, F⟩ := T.a__law_hand
  have nd := sc__law_hand.nd
  refine ⟨f, fd, ["_law_script"], hm, F.kp, F.ok sc__law_hand (fun vs H Q E h => ?_) (fun cdv A outer s H vs Q E hr h => ?_), bn__law_hand fd f F⟩
  · obtain ⟨l, ns, rfl, _⟩ := h
    rfl
  obtain ⟨l, ns, rfl, hs, hz, q⟩ := h
  refine ⟨wSs (bx P w K mg base n__law_hand "_law_hand" (topS 112) f cdv A outer s H E) (defBody (topS 112)), pss_w, ?_⟩
  have E0 : En K C H (L2.start n__law_hand [.ref l]) [some (.l (ns.map D.int)), none, none] :=
    ⟨rfl, fun j w e => match j, e with
      | 0, e => by cases e; exact ⟨_, rfl, l, _, rfl, hs, Rps.ints ns⟩
      | 1, e => nomatch e
      | 2, e => nomatch e
      | n + 3, e => nomatch e⟩
  obtain ⟨ys, hy, hyl⟩ := cutD_map D.int ns none (some 63)
  have hi : Di false C (bx P w K mg base n__law_hand "_law_hand" (topS 112) f cdv A outer s H E) [some (.l (ns.map D.int)), none, none] (match (defBody (topS 112)).getD 0 (.Pass ⟨0, 0, 0, 0⟩) with | .Assign _ (.ListComp _ (g :: _) _ _) _ => g.target | _ => .Constant .none 0 ⟨0, 0, 0, 0⟩) (match (defBody (topS 112)).getD 0 (.Pass ⟨0, 0, 0, 0⟩) with | .Assign _ (.ListComp _ (g :: _) _ _) _ => g.iter | _ => .Constant .none 0 ⟨0, 0, 0, 0⟩) (ys.map fun i => .d (.int i)) :=
    di_listM (f := D.int) (De.is (de_of_l (dl_slL (dv 0 rfl rfl) do_none (do_some de_int))) (by rw [hy]))
  refine wSs_cons ⟨_, ps_setLc (i := 1) (own := [("_law_cell", 2)]) (g := gName 2) rfl nd rfl rfl (sw_true rfl rfl rfl (by decide +kernel)) pi_w (blkOk_by (N := n__law_hand) (sc := defScope (topS 112)) (by decide +kernel)) (fun _ _ _ _ _ => pg_name nd rfl (by first | exact .inl rfl | exact .inr rfl)) pts_ttB pe_teB (by intro _; rfl), ?_⟩
  refine lc_read (t := false) hi (turns_of (fun _ => true) (fun i => .int (if i < 0 then -i else i)) .non fun i hi => ⟨_, dg_name, fun _ _ _ _ _ => dts_nil, fun _ _ _ _ _ _ => de_callB dc_abs T.f_abs (da_cons (de_callTy dc_int T.f_int (da_cons ((dv 2 rfl rfl)) da_nil)) da_nil)⟩) (by rw [List.length_map]; omega) E0 fun c cs H1 hc s1 hc1 rs => ?_
  rw [List.length_map, given_of, List.filter_eq_self.mpr fun _ _ => rfl] at rs
  have e1 : (ys.map fun i => D.int (if i < 0 then -i else i)) = (ys.map fun i => if i < 0 then -i else i).map D.int := by rw [List.map_map]; rfl
  rw [e1] at rs
  have e2 := rs.int_eq
  have E1 : En K C H1 ((L2.start n__law_hand [.ref l]).set 1 (some (.ref c))) [some (.l (ns.map D.int)), some (.l ((ys.map fun i => if i < 0 then -i else i).map D.int)), none] := (E0.mono s1).set (i := 1) (w := .l _) ⟨c, cs, rfl, SqL.of hc1, rs⟩
  have hlen : De C (bx P w K mg base n__law_hand "_law_hand" (topS 112) f cdv A outer s H E) [some (.l (ns.map D.int)), some (.l ((ys.map fun i => if i < 0 then -i else i).map D.int)), none] (match (defBody (topS 112)).getD 1 (.Pass ⟨0, 0, 0, 0⟩) with | .Return (some (.List es _)) _ => es.getD 3 (.Constant .none 0 ⟨0, 0, 0, 0⟩) | _ => .Constant .none 0 ⟨0, 0, 0, 0⟩) (.d (.int (1 + (ys.length : Int)))) :=
    De.is (de_bin dr_add de_int (de_callB dc_lenL T.f_len (da_cons ((dv 1 rfl rfl)) da_nil))) (by simp)
  refine wSs_cons ⟨_, ps_ret (pe_lst (pa_cons (pe_var (i := 1) rfl (.inl rfl) (by decide) (by decide)) (pa_cons pe_int (pa_cons pe_int (pa_cons pe_w (pa_cons pe_int pa_nil)))))), .ref c, rfl, ?_⟩
  refine hlen _ H1 _ E1 fun v H2 s2 r2 => ?_
  cases r2
  refine ⟨szl (show 5 ≤ 100000 by decide), fun l2 hl2 => ?_⟩
  have hc2 : H2 c = some (.lst cs) := s2 _ _ hc1
  have ne : c ≠ l2 := fun z => by
    rw [z, hl2] at hc2
    cases hc2
  have sn := same_new (o := .lst [.ref c, .int 0, .int 0, .int (1 + (ys.length : Int)), .int 0]) hl2
  exact q ⟨l2, c, ys.map fun i => if i < 0 then -i else i⟩ _ (s1.trans (s2.trans sn)) (s1.free (s2.free hl2)) ⟨ne, SqL.of (by rw [mn_ne ne, upd_ne ne, hc2, e2]), 0, 0, _, 0, upd_same, by decide⟩
def spInputs (K : PySem.W.Frag) (C : Addr) : Sp := fun vs H Q _ => ∃ (h : Hnd), vs = [.ref h.p, .str "levels"] ∧ Hk K H h ∧ ∀ (rows : List Int) (v : V) (H' : Hp), 1 ≤ rows.length → rows.length ≤ 5 → (∀ r ∈ rows, 0 ≤ r ∧ r ≤ 999) → Same (mn h.p H) (mn h.p H') → Hk K H' h → Rp K C H' v (.tup [.tup (rows.map D.int), .tup (rows.map D.int), .int 0]) → Q v H'
theorem Rps.paired {H : Hp} : ∀ {vs : List V} {ds : List D}, Rps K C H vs ds → Paired (Rw K C H) vs (ds.map W.d)
  | _, _, .nil => .nil
  | _, _, .cons a b => .cons a (Rps.paired b)
theorem eo_start {h : Hnd} {N : List Str} {vs : List V} {ds : List D} {H : Hp} (k : Hk K H h) (r : Rps K C H vs ds) : Eo K C h [] H H (L2.start N vs) (startW N (ds.map W.d)) := by
  have hp : Paired (Rw K C (mnl h.p [] H)) vs (ds.map W.d) := by
    obtain ⟨xs, hx⟩ := k.lst
    have kt : Kt H (mnl h.p [] H) := fun a o n e => by
      rw [mnl_ne]
      · exact e
      · rintro (z | z)
        · rw [z, hx] at e
          cases e
          exact n
        · cases z
    exact (r.mono kt).paired
  have e := en_start (N := N) hp
  exact ⟨e.1, fun j w _ e' => e.2 j w e', fun j a z => (nomatch z), fun j a z => (nomatch z), fun j j' a z => (nomatch z), k, k, Same.refl _⟩
theorem ok_inputs (T : Tx K mg C) : Okf P w K mg base 3 "_law_inputs" (spInputs K C) := by
  obtain ⟨f, fd, hm, F⟩ := T.a__law_inputs
  have nd := sc__law_inputs.nd
  refine ⟨f, fd, ["_law_hand_here", "_law_kind"], hm, F.kp, F.ok sc__law_inputs (fun vs H Q E h => ?_) (fun cdv A outer s H vs Q E hr h => ?_), bn__law_inputs fd f F⟩
  · obtain ⟨h, rfl, _⟩ := h
    rfl
  obtain ⟨h, rfl, hk, q⟩ := h
  refine ⟨wSs (bx P w K mg base n__law_inputs "_law_inputs" (topS 117) f cdv A outer s H E) (defBody (topS 117)), pss_w, ?_⟩
  have main : Dm C (bx P w K mg base n__law_inputs "_law_inputs" (topS 117) f cdv A outer s H E) h [] (startW n__law_inputs [.d (.raw (.ref h.p)), .d (.str "levels")]) (defBody (topS 117)) (Zr C (bx P w K mg base n__law_inputs "_law_inputs" (topS 117) f cdv A outer s H E) h fun d => ∃ rows : List Int, 1 ≤ rows.length ∧ rows.length ≤ 5 ∧ (∀ r ∈ rows, 0 ≤ r ∧ r ≤ 999) ∧ d = .tup [.tup (rows.map D.int), .tup (rows.map D.int), .int 0]) := by
    refine dm_setH (i := 2) (dh_someL (T := T) (i := 0) (S := fun d => ∃ n : Nat, 1 ≤ n ∧ n ≤ 5 ∧ d = .int (n : Nat)) hr rfl (dlh_of (dl_lst (dd_cons (de_int) (dd_cons (de_int) (dd_cons (de_int) (dd_cons (de_int) (dd_cons (de_int) (dd_cons (de_int) (dd_cons (de_int) (dd_cons (de_int) dd_nil))))))))) rfl) (fun ds e => ?_)) (fun d hd => ?_) nd
    · subst e
      refine ⟨by simp, by decide, fun d hd => ?_⟩
      simp only [List.mem_cons, List.not_mem_nil, or_false] at hd
      rcases hd with rfl | rfl | rfl | rfl | rfl | rfl | rfl | rfl
      · exact ⟨1, by decide, by decide, rfl⟩
      · exact ⟨2, by decide, by decide, rfl⟩
      · exact ⟨2, by decide, by decide, rfl⟩
      · exact ⟨3, by decide, by decide, rfl⟩
      · exact ⟨3, by decide, by decide, rfl⟩
      · exact ⟨3, by decide, by decide, rfl⟩
      · exact ⟨4, by decide, by decide, rfl⟩
      · exact ⟨5, by decide, by decide, rfl⟩
    obtain ⟨n, n1, n5, rfl⟩ := hd
    refine dm_if (dt_cmp dr_eqS (dv 1 rfl rfl) de_str) (fun _ => ?_) (fun z => nomatch z)
    refine dm_setH (i := 4) (dh_tuple (dlh_lc (j := 5) (x := "_law_one") (xs := List.range n) nI (fun i ds => ∃ xs : List Int, ds = xs.map D.int ∧ xs.length = i ∧ ∀ x ∈ xs, 0 ≤ x ∧ x ≤ 999) (blkOk_by (N := n__law_inputs) (sc := defScope (topS 117)) (by decide +kernel)) (fun _ _ _ _ _ => pg_name nd rfl (by first | exact .inl rfl | exact .inr rfl)) (di_range (n := n) (by omega) (dv 2 rfl rfl) T.f_range) ⟨[], rfl, rfl, fun _ z => nomatch z⟩ (fun i z hz => ⟨_, fun d => ∃ x : Int, 0 ≤ x ∧ x ≤ 999 ∧ d = .int x, fun _ _ _ _ _ => dtsh_nil, fun _ _ _ _ _ _ => ?_, fun ds z => ?_, fun ds d _ hd hds => ?_⟩) (fun i ds ⟨xs, e, hl, _⟩ => by rw [e, List.length_map, hl]; exact Nat.le_refl _) (by simp; omega) nd) T.f_tuple) (fun d hd => ?_) nd
    · refine dh_someL (T := T) (i := 0) (R := fun ds => ∃ z : Int, 0 ≤ z ∧ z < 1000 ∧ ds = [.int 0, .int 7, .int z, .int 999]) hr rfl (dlh_lst (dah_cons (dh_of de_int rfl) fun d e => dah_cons (dh_of de_int rfl) fun d2 e2 => dah_cons (dh_draw (T := T) (i := 0) (m := 1000) hr de_int (by decide) (by decide) rfl) fun d3 e3 => dah_cons (dh_of de_int rfl) fun d4 e4 => dah_nil ?_) ?_) ?_
      · obtain ⟨z, h0, h1, rfl⟩ := e3
        subst e e2 e4
        exact ⟨z, h0, h1, rfl⟩
      · rintro ds ⟨z, _, _, rfl⟩
        exact (show 4 ≤ 100000 by decide)
      · rintro ds ⟨z, h0, h1, rfl⟩
        refine ⟨by simp, (show 4 < 1000000 by decide), fun d hd => ?_⟩
        simp only [List.mem_cons, List.not_mem_nil, or_false] at hd
        rcases hd with rfl | rfl | rfl | rfl
        · exact ⟨0, by decide, by decide, rfl⟩
        · exact ⟨7, by decide, by decide, rfl⟩
        · exact ⟨z, h0, by omega, rfl⟩
        · exact ⟨999, by decide, by decide, rfl⟩
    · cases z
    · obtain ⟨xs, rfl, hl, hx⟩ := hds
      obtain ⟨x, x0, x1, rfl⟩ := hd
      refine ⟨xs ++ [x], by rw [List.map_append]; rfl, by rw [List.length_append, hl]; rfl, fun y hy => ?_⟩
      rcases List.mem_append.mp hy with z | z
      · exact hx y z
      · obtain rfl := List.mem_singleton.mp z
        exact ⟨x0, x1⟩
    obtain ⟨ds, ⟨rows, rfl, hl, hx⟩, rfl⟩ := hd
    rw [List.length_range] at hl
    refine dm_nil ?_
    refine dm_set (i := 3) (de_ifF (Dt.is (dt_cmp dr_eqS (dv 1 rfl rfl) de_str) (by decide)) de_int) ?_ nd
    exact dm_ret (de_tup (dd_cons (de_ifF (Dt.is (dt_cmp dr_eqS (dv 1 rfl rfl) de_str) (by decide)) (dv 4 rfl rfl)) (dd_cons ((dv 4 rfl rfl)) (dd_cons ((dv 3 rfl rfl)) dd_nil)))) ⟨rows, by omega, by omega, hx, rfl⟩
  refine main H _ H _ (eo_start hk (.cons (.raw _) (.cons (.str _) .nil))) fun v d H' hd s k r => ?_
  obtain ⟨rows, r1, r5, rx, rfl⟩ := hd
  exact q rows v H' r1 r5 rx s k r
end
end OP

set_option Elab.async false
set_option linter.all false
set_option maxRecDepth 100000
set_option maxHeartbeats 4000000
/-! OpH5: _law_woven -/
namespace OP
open PySem PySem.Spec PyProof.Rows L2
theorem eo_make {K : PySem.W.Frag} {C : Addr} {h : Hnd} {A : List (Nat × Addr)} {H0 H : Hp} {σ : L2.St} {δ : Dn} (len : σ.length = δ.length)
    (data : ∀ (j : Nat) (w : W), j ∉ A.map (·.1) → δ[j]? = some (some w) → ∃ v d, w = .d d ∧ σ[j]? = some (some v) ∧ Rp K C H v d)
    (own : ∀ (j : Nat) (a : Addr), (j, a) ∈ A → ∃ xs vs, δ[j]? = some (some (.l xs)) ∧ σ[j]? = some (some (.ref a)) ∧ H a = some (.lst vs) ∧ Rps K C H vs xs)
    (ne : ∀ (j : Nat) (a : Addr), (j, a) ∈ A → a ≠ h.p ∧ H0 a = none) (uq : ∀ (j j' : Nat) (a : Addr), (j, a) ∈ A → (j', a) ∈ A → j = j') (k0 : Hk K H0 h) (hk : Hk K H h) (same : Same (mn h.p H0) (mn h.p H)) : Eo K C h A H0 H σ δ := by
  have kt : Kt H (mnl h.p A H) := fun a o n e => by
    rw [mnl_ne]
    · exact e
    · rintro (z | z)
      · obtain ⟨xs, hx⟩ := hk.lst
        rw [z, hx] at e
        cases e
        exact n
      · obtain ⟨⟨j, a'⟩, hm, rfl⟩ := List.mem_map.mp z
        obtain ⟨xs, vs, _, _, e2, _⟩ := own j a' hm
        rw [e2] at e
        cases e
        exact n
  refine ⟨len, fun j w hj e => ?_, own, ne, uq, k0, hk, same⟩
  obtain ⟨v, d, rfl, a, b⟩ := data j w hj e
  exact ⟨v, a, Rp.mono kt b⟩
section
variable {C : Addr} {X : Cx} {h : Hnd} {A : List (Nat × Addr)} {δ : Dn} {rest : List Stmt} {Z : Hp → Ends → Prop} {e e1 e2 : Expr} {pos p p1 p2 p3 : Pos}
/-- name = [..], the name a plain local -/
theorem dm_setLc {α : Type} {i : Nat} {x : Str} {t : Bool} {elt tg iter : Expr} {ifs : List Expr} {scope : Scope} {own : List (Str × Nat)} {g : TG} {xs : List α} {enc : α → W} {py : Pos} (pp : α → Bool) (f : α → D) (hy : X.N[i]? = some x) (ok : BlkOk X.N X.env.scope scope own)
    (hg : ∀ (s : Shared) (H : Hp) (Cc : Addr) (cl : List (Str × Addr)) (fp : List Addr), PG (X.blk s H scope (compEnvC scope cl Cc X.env) fp) tg g)
    (hi : Di t C X δ tg iter (xs.map enc)) (hN : X.N.Nodup) (hz : xs.length ≤ 50000)
    (hh : ∀ x ∈ xs, ∃ δ', Dg X.K C g (enc x) (wipeD δ (own.map (·.2))) δ' (own.map (·.2)) ∧
      (∀ (s : Shared) (H : Hp) (Cc : Addr) (cl : List (Str × Addr)) (fp : List Addr), Dts C (X.blk s H scope (compEnvC scope cl Cc X.env) fp) δ' ifs (pp x)) ∧
      (pp x = true → ∀ (s : Shared) (H : Hp) (Cc : Addr) (cl : List (Str × Addr)) (fp : List Addr), De C (X.blk s H scope (compEnvC scope cl Cc X.env) fp) δ' elt (.d (f x))))
    (k : Dm C X h A (δ.set i (some (.l ((xs.filter pp).map f)))) rest Z) (hA : i ∉ A.map (·.1) := by simp)
    (hyl : X.env.scope.names.lookup x = some .local := by rfl) (hsw : swapsWith (.ListComp elt [⟨tg, iter, ifs, 0⟩] scope pos) (some (.Name x py)) p.line X.env = pure true := by exact sw_true rfl rfl rfl (by decide +kernel))
    (hc : X.calm = true := by rfl) (hs : ∀ x, foldedSetIterable iter X.env x = pure x := by intro _; rfl) : Dm C X h A δ (.Assign [.Name x py] (.ListComp elt [⟨tg, iter, ifs, 0⟩] scope pos) p :: rest) Z := fun H0 σ H D E z => by
  refine wSs_cons ⟨_, ps_setLc (own := own) hc hN hy hyl hsw pi_w ok hg pts_ttB pe_teB hs, ?_⟩
  refine lc_read hi (turns_of pp f .non hh) (by rw [List.length_map]; exact hz) E.enH fun l vs H' hl s hl' rs => ?_
  rw [List.length_map, given_of pp f .non xs] at rs
  have E1 := E.mono s
  exact k H0 _ H' D (E1.setW (w := .l _) ⟨l, vs, rfl, SqL.of (by rw [mnl_ne (E.fresh hl)]; exact hl'), rs.mono E1.kt⟩ hA) z
/-- x, y = [..], e -/
theorem dm_unLD {i j : Nat} {x y : Str} {R : List D → Prop} {d : D} {kk k2 : Nat} {px py pt pt2 : Pos} (h1 : Dlh C X h δ e1 R) (h2 : De C X δ e2 (.d d)) (k : ∀ ds, R ds → Dm C X h A ((δ.set i (some (.l ds))).set j (some (.d d))) rest Z) (hN : X.N.Nodup) (hiA : i ∉ A.map (·.1) := by simp) (hjA : j ∉ A.map (·.1) := by simp)
    (hi : X.N[i]? = some x := by rfl) (hj : X.N[j]? = some y := by rfl) (hc : X.calm = true := by rfl)
    (ha : (assignEach [.Name x px, .Name y py] X.env).length = 2 := by rfl) (hst : (assignEach [.Name x px, .Name y py] X.env).findIdx? (·.1) = none := by rfl)
    (hpg : PGs X [.Name x px, .Name y py] (gCons (gName i) (gCons (gName j) gNil)) := by exact pgs_cons (pg_name ‹_› rfl (by first | exact Or.inl rfl | exact Or.inr rfl)) (pgs_cons (pg_name ‹_› rfl (by first | exact Or.inl rfl | exact Or.inr rfl)) pgs_nil))
    (hs1 : starEach [e1, e2] X.env = (false, eval e1 X.env) :: starEach [e2] X.env := by rfl) (hs2 : starEach [e2] X.env = (false, eval e2 X.env) :: starEach [] X.env := by rfl)
    (hs : swapsWithSole [.Tuple [.Name x px, .Name y py] kk pt] (.Tuple [e1, e2] k2 pt2) pos.line X.env = pure false := by rfl) (hw : swappedStores [.Tuple [.Name x px, .Name y py] kk pt] (.Tuple [e1, e2] k2 pt2) X.env = pure none := by rfl)
    (h1' : (assignEach [.Tuple [.Name x px, .Name y py] kk pt] X.env).map (·.2) = [assign (.Tuple [.Name x px, .Name y py] kk pt) X.env] := by rfl) :
    Dm C X h A δ (.Assign [.Tuple [.Name x px, .Name y py] kk pt] (.Tuple [e1, e2] k2 pt2) pos :: rest) Z := fun H0 σ H D E z => by
  refine wSs_cons ⟨_, ps_asg (pe_tup (pa_cons pe_w (pa_cons pe_w pa_nil hs2) hs1)) (pg_tup hc hpg ha hst) hs hw h1', ?_⟩
  refine h1 σ H _ E.en E.hk fun l vs ds H1 hl rd s1 k1 hl1 rs => ?_
  have E1 := E.draw s1 k1
  refine h2 σ H1 _ E1.enH fun v H2 s2 r2 => ?_
  have E2 := E1.mono s2
  refine ⟨szl (show 2 ≤ 100000 by decide), fun q hq => ?_⟩
  have sn := same_new (o := .tup [.ref l, v]) hq
  have E3 := E2.mono sn
  refine ⟨q, _, rfl, SqT.of upd_same, rfl, _, _, rfl, _, _, rfl, rfl, ?_⟩
  have hl3 : upd H2 q (.tup [.ref l, v]) l = some (.lst vs) := sn _ _ (s2 _ _ hl1)
  have E4 := E3.setW (i := i) (v := .ref l) (w := .l ds) ⟨l, vs, rfl, SqL.of (by rw [mnl_ne (E.fresh hl)]; exact hl3), (rs.mono (.of (s2.trans sn))).mono E3.kt⟩ hiA
  exact k ds rd H0 _ _ D (E4.set (i := j) (v := v) (d := d) (Rp.mono (.of sn) r2) hjA) z
end
section
variable {P : Program} {w : World} {K : PySem.W.Frag} {mg : Str → Option Value} {base : Heap} {C : Addr}
def spWoven (K : PySem.W.Frag) (C : Addr) : Sp := fun vs H Q _ => ∃ (h : Hnd) (rows : List Int) (r : Int) (most : Nat), Rps K C H vs [.raw (.ref h.p), .str "levels", .tup (rows.map D.int), .int r, .int (most : Nat)] ∧ Hk K H h ∧ 1 ≤ rows.length ∧ rows.length ≤ 5 ∧ most ≤ 90 ∧
  ∀ (hs : List Nat) (q f g : Addr) (H' : Hp), Okw rows (begin0 rows.length) hs → hs.length ≤ most → SqT K H' q [.ref f, .ref g] → Rl K C (mn h.p H') (.ref f) (hs.map nI) → Rl K C (mn h.p H') (.ref g) (stands rows (begin0 rows.length) hs (hs.length + 1)) → Same (mn h.p H) (mn h.p H') → Hk K H' h → Q (.ref q) H'
/-- the end of the weaving -/
def Zw (K : PySem.W.Frag) (C : Addr) (h : Hnd) (rows : List Int) (most : Nat) : Hp → Ends → Prop := fun H0 D => ∀ (hs : List Nat) (q f g : Addr) (H' : Hp), Okw rows (begin0 rows.length) hs → hs.length ≤ most → SqT K H' q [.ref f, .ref g] → Rl K C (mn h.p H') (.ref f) (hs.map nI) → Rl K C (mn h.p H') (.ref g) (stands rows (begin0 rows.length) hs (hs.length + 1)) → Same (mn h.p H0) (mn h.p H') → Hk K H' h → D.rt (.ref q) H'
theorem runs_snoc {rows : List Int} {s : St} {hs : List Nat} {k : Nat} : runs rows s (hs ++ [k]) = moved rows (runs rows s hs) k := by
  rw [runs_app]
  rfl
theorem stands_snoc {rows : List Int} {s : St} {hs : List Nat} {k : Nat} : stands rows s (hs ++ [k]) ((hs ++ [k]).length + 1) = stands rows s hs (hs.length + 1) ++ [eSt (moved rows (runs rows s hs) k)] := by
  rw [List.length_append, List.length_singleton, stands_succ, List.take_of_length_le (by simp), runs_snoc]
  congr 1
  unfold stands
  refine List.map_congr_left fun i hi => ?_
  have := List.mem_range.mp hi
  rw [List.take_append_of_le_length (by omega)]
theorem woven_loop (T : Tx K mg C) {f : Addr} {cdv : Value} {A : Around} {outer : List Env} {s : Shared} {H : Hp} {E : XK} (hr : Room 7 (bx P w K mg base n__law_woven "_law_woven" (topS 126) f cdv A outer s H E).A) {h : Hnd} {rows : List Int} {r way : Int} {most : Nat} (h1 : 1 ≤ rows.length) (h5 : rows.length ≤ 5) (hm : most ≤ 90) (fa ga : Addr) (ss : List Int) :
    Dm C (bx P w K mg base n__law_woven "_law_woven" (topS 126) f cdv A outer s H E) h [(6, fa), (7, ga)] [some (.d (.raw (.ref h.p))), some (.d (.str "levels")), some (.d (.tup (rows.map D.int))), some (.d (.int r)), some (.d (.int (most : Nat))), none, some (.l []), some (.l [eSt (begin0 rows.length)]), some (.d (.int way)), some (.l (ss.map D.int)), some (.d (.int 0)), none, none, none] ((defBody (topS 126)).drop 2) (Zw K C h rows most) := by
  have nd := sc__law_woven.nd
  have W0 := wf_begin (rows := rows) h5
  refine dm_for (i := 5) (enc := nI) (xs := List.range most) (di_range (n := most) (by omega) (dv 4 rfl rfl) T.f_range) (pg_name nd rfl (by first | exact .inl rfl | exact .inr rfl)) (fun t δ' => ∃ (hs : List Nat) (one : Nat) (a b c : Option W), Okw rows (begin0 rows.length) hs ∧ hs.length ≤ t ∧ δ' = [some (.d (.raw (.ref h.p))), some (.d (.str "levels")), some (.d (.tup (rows.map D.int))), some (.d (.int r)), some (.d (.int (most : Nat))), a, some (.l (hs.map nI)), some (.l (stands rows (begin0 rows.length) hs (hs.length + 1))), some (.d (.int way)), some (.l (ss.map D.int)), some (.d (nI one)), b, c, none]) ⟨[], 0, none, none, none, trivial, Nat.le_refl _, rfl⟩ (fun t z δ' hz hI => ?_) fun δ' hI => ?_
  · obtain ⟨hs, one, a, b, c, hok, hl, rfl⟩ := hI
    have ht : t < most := by
      have := (List.getElem?_eq_some_iff.mp hz).1
      simpa using this
    obtain rfl : t = z := by
      rw [List.getElem?_range ht] at hz
      exact Option.some.inj hz
    have Ws := wf_runs (hs := hs) W0
    have hls : atI (stands rows (begin0 rows.length) hs (hs.length + 1)) (-1) = some (eSt (runs rows (begin0 rows.length) hs)) := by
      rw [stands_succ, List.take_length]
      exact atI_last _ _
    generalize hst : runs rows (begin0 rows.length) hs = st at *
    have ln : (left st).length ≤ 5 := by
      unfold left
      rw [List.length_map]
      refine Nat.le_trans (List.length_filter_le _ _) ?_
      rw [List.length_zipIdx, Ws.ls]
      exact h5
    refine dm_setLc (i := 11) (t := true) (own := [("_law_other", 13)]) (g := gName 13) (xs := left st) (enc := fun o => .d (nI o)) (fun (o : Nat) => !decide ((o : Int) ∈ ss) || decide ((t : Int) < 4)) nI rfl (blkOk_by (N := n__law_woven) (sc := defScope (topS 126)) (by decide +kernel)) (fun _ _ _ _ _ => pg_name nd rfl (by first | exact .inl rfl | exact .inr rfl)) (di_tupM (de_cal (ok__law_left T) hr (da_cons (de_ix (dx_l hls) (dv 7 rfl rfl) (de_neg de_int)) da_nil) ⟨st, rfl, by rw [Ws.ls]; omega, rfl⟩)) nd (by omega) (fun o ho => ⟨_, dg_name, fun _ _ _ _ _ => dts_one (Dw.t (dw_or (dt_cmp dr_notInL (dv 13 rfl rfl) (dv 9 rfl rfl)) fun _ => dw_or1 (dt_cmp dr_lt (dv 5 rfl rfl) de_int))), fun _ _ _ _ _ _ => (dv 13 rfl rfl)⟩) ?_
    have hsub : ∀ o ∈ (left st).filter (fun (o : Nat) => !decide ((o : Int) ∈ ss) || decide ((t : Int) < 4)), o ∈ left st := fun o ho => (List.mem_filter.mp ho).1
    have hln := List.length_filter_le (fun (o : Nat) => !decide ((o : Int) ∈ ss) || decide ((t : Int) < 4)) (left st)
    generalize hlf : (left st).filter (fun (o : Nat) => !decide ((o : Int) ∈ ss) || decide ((t : Int) < 4)) = lf at hsub hln ⊢
    have elf : lf.map nI = (lf.map fun (i : Nat) => (i : Int)).map D.int := by rw [List.map_map]; rfl
    refine dm_if (k := decide (0 < lf.length)) (Dt.is (dt_cmp dr_gt (de_callB dc_lenL T.f_len (da_cons ((dv 11 rfl rfl)) da_nil)) de_int) (by rw [List.length_map]; simp)) (fun hk => ?_) fun hk => ?_
    · have hk := of_decide_eq_true hk
      refine dm_setLc (i := 12) (t := false) (own := [("_law_other", 13)]) (g := gName 13) (xs := lf) (enc := fun o => .d (nI o)) (fun (o : Nat) => decide ((one : Int) < (o : Int))) nI rfl (blkOk_by (N := n__law_woven) (sc := defScope (topS 126)) (by decide +kernel)) (fun _ _ _ _ _ => pg_name nd rfl (by first | exact .inl rfl | exact .inr rfl)) (di_listM (dv 11 rfl rfl)) nd (by omega) (fun o ho => ⟨_, dg_name, fun _ _ _ _ _ => dts_one (dt_cmp dr_gt (dv 13 rfl rfl) (dv 10 rfl rfl)), fun _ _ _ _ _ _ => (dv 13 rfl rfl)⟩) ?_
      have hbs : ∀ o ∈ lf.filter (fun (o : Nat) => decide ((one : Int) < (o : Int))), o ∈ lf := fun o ho => (List.mem_filter.mp ho).1
      generalize lf.filter (fun (o : Nat) => decide ((one : Int) < (o : Int))) = bh at hbs ⊢
      have h0 : atI (lf.map nI) 0 = some (nI lf[0]) := atI_nat (j := 0) (by rw [List.getElem?_map, List.getElem?_eq_getElem hk]; rfl)
      have tail : ∀ k, k ∈ lf → Dm C (bx P w K mg base n__law_woven "_law_woven" (topS 126) f cdv A outer s H E) h [(6, fa), (7, ga)] [some (.d (.raw (.ref h.p))), some (.d (.str "levels")), some (.d (.tup (rows.map D.int))), some (.d (.int r)), some (.d (.int (most : Nat))), some (.d (nI t)), some (.l (hs.map nI)), some (.l (stands rows (begin0 rows.length) hs (hs.length + 1))), some (.d (.int way)), some (.l (ss.map D.int)), some (.d (nI k)), some (.l (lf.map nI)), some (.l (bh.map nI)), none] (match ((defBody (topS 126)).getD 2 (.Pass ⟨0, 0, 0, 0⟩)) with | .For _ _ (_ :: .If _ b _ _ :: _) _ _ => b.drop 2 | _ => []) (Zn C (bx P w K mg base n__law_woven "_law_woven" (topS 126) f cdv A outer s H E) h [(6, fa), (7, ga)] fun d => Dm C (bx P w K mg base n__law_woven "_law_woven" (topS 126) f cdv A outer s H E) h [(6, fa), (7, ga)] d [] (Zn C (bx P w K mg base n__law_woven "_law_woven" (topS 126) f cdv A outer s H E) h [(6, fa), (7, ga)] fun δ' => ∃ (hs : List Nat) (one : Nat) (a b c : Option W), Okw rows (begin0 rows.length) hs ∧ hs.length ≤ t + 1 ∧ δ' = [some (.d (.raw (.ref h.p))), some (.d (.str "levels")), some (.d (.tup (rows.map D.int))), some (.d (.int r)), some (.d (.int (most : Nat))), a, some (.l (hs.map nI)), some (.l (stands rows (begin0 rows.length) hs (hs.length + 1))), some (.d (.int way)), some (.l (ss.map D.int)), some (.d (nI one)), b, c, none])) := fun k hkl => by
        obtain ⟨x, hx⟩ := left_mem (hsub k hkl)
        refine dm_app (i := 6) (f := fa) (xs := hs.map nI) (by simp) rfl (dv 10 rfl rfl) (by rw [List.length_map]; omega) ?_
        refine dm_app (i := 7) (f := ga) (xs := stands rows (begin0 rows.length) hs (hs.length + 1)) (by simp) rfl (de_cal (ok__law_moved T) hr (da_cons ((dv 1 rfl rfl)) (da_cons ((dv 2 rfl rfl)) (da_cons ((dv 3 rfl rfl)) (da_cons (de_ix (dx_l hls) (dv 7 rfl rfl) (de_neg de_int)) (da_cons ((dv 10 rfl rfl)) da_nil))))) ⟨rows, r, st, k, x, rfl, Ws, hx, rfl⟩) (by rw [stands_length]; omega) (dm_nil (dm_nil ⟨hs ++ [k], k, some (.d (nI t)), some (.l (lf.map nI)), some (.l (bh.map nI)), okw_app.mpr ⟨hok, ⟨x, by rw [hst]; exact hx⟩, trivial⟩, by rw [List.length_append]; simp; omega, ?_⟩))
        have em : (hs ++ [k]).map nI = hs.map nI ++ [nI k] := List.map_append
        rw [stands_snoc, hst, em]
        rfl
      refine dm_if (k := decide (way = 0)) (dt_cmp dr_eqI (dv 8 rfl rfl) de_int) (fun hw => ?_) fun hw => ?_
      · cases bh with
        | nil =>
          exact dm_set (i := 10) (de_ifF (dt_cmp dr_gt (de_callB dc_lenL T.f_len (da_cons ((dv 12 rfl rfl)) da_nil)) de_int) (de_ix (dx_l h0) (dv 11 rfl rfl) de_int)) (dm_nil (tail _ (List.getElem_mem hk))) nd
        | cons b0 br =>
          have h0' : atI ((b0 :: br).map nI) 0 = some (nI b0) := atI_nat (j := 0) rfl
          exact dm_set (i := 10) (de_ifT (Dt.is (dt_cmp dr_gt (de_callB dc_lenL T.f_len (da_cons ((dv 12 rfl rfl)) da_nil)) de_int) (by simp)) (de_ix (dx_l h0') (dv 12 rfl rfl) de_int)) (dm_nil (tail _ (hbs b0 List.mem_cons_self))) nd
      · refine dm_ifH (R := fun b => b = true ∨ one ∈ lf) (Dwh.t (dwh_or (S := fun _ => True) (dth_of (dt_cmp dr_eqI (dv 8 rfl rfl) de_int) trivial) (fun _ => .inl rfl) fun _ => dwh_or (S := fun b => b = true ∨ one ∈ lf) (dth_of (x := !decide ((one : Int) ∈ lf.map fun (i : Nat) => (i : Int))) (dt_cmp dr_notInL (dv 10 rfl rfl) (De.is (dv 11 rfl rfl) (by rw [elf]))) ?_) (fun _ => .inl rfl) fun ho => dwh_or1 (?_ : Dth _ _ _ _ _ _))) (fun _ => ?_) fun ho => ?_
        · cases hb : decide ((one : Int) ∈ lf.map fun (i : Nat) => (i : Int)) with
          | false => exact .inl rfl
          | true =>
            obtain ⟨j, hj, e⟩ := List.mem_map.mp (of_decide_eq_true hb)
            have e : j = one := by omega
            exact .inr (e ▸ hj)
        · have hone : one ∈ lf := ho.resolve_left (by decide)
          intro σ H' Q En k q
          exact dth_eq0 (dh_draw (T := T) (i := 0) (m := 4) hr de_int (by decide) (by decide) rfl) (fun d ⟨z, _, _, e⟩ => ⟨z, e⟩) de_int rfl σ H' Q En k fun b H2 _ s2 k2 => q b H2 (.inr hone) s2 k2
        · refine dm_setH (i := 10) (dh_someV (T := T) (i := 0) (j := 11) (xs := lf.map nI) hr rfl rfl (fun z => ?_) (by rw [List.length_map]; omega)) (fun d hd => ?_) nd
          · have : lf = [] := List.map_eq_nil_iff.mp z
            rw [this] at hk
            exact absurd hk (Nat.lt_irrefl 0)
          · obtain ⟨k, hk', rfl⟩ := List.mem_map.mp hd
            exact dm_nil (dm_nil (tail k hk'))
        · exact dm_nil (dm_nil (tail one (ho.resolve_left (by decide))))
    · exact dm_nil (dm_nil ⟨hs, one, _, _, _, hok, by omega, rfl⟩)
  · obtain ⟨hs, one, a, b, c, hok, hl, rfl⟩ := hI
    rw [List.length_range] at hl
    intro H0 σ H2 D Eo z
    obtain ⟨x1, v1, a1, a2, a3, a4⟩ := Eo.own 6 fa (by simp)
    obtain ⟨x2, v2, b1, b2, b3, b4⟩ := Eo.own 7 ga (by simp)
    cases a1
    cases b1
    refine wSs_cons ⟨_, ps_ret (pe_tup (pa_cons (pe_var (i := 6) rfl (.inl rfl) (by decide) (by decide)) (pa_cons (pe_var (i := 7) rfl (.inl rfl) (by decide) (by decide)) pa_nil))), .ref fa, a2, .ref ga, b2, szl (show 2 ≤ 100000 by decide), fun q hq => ?_⟩
    have sn := same_new (o := .tup [.ref fa, .ref ga]) hq
    have E2 := Eo.mono sn
    have kt : Kt H2 (mn h.p (upd H2 q (.tup [.ref fa, .ref ga]))) := (Kt.of sn).trans (E2.kt.trans (.of mnl_mn))
    refine z hs q fa ga _ hok hl (SqT.of upd_same) ⟨fa, v1, rfl, SqL.of (by rw [mn_ne (Eo.ne 6 fa (by simp)).1]; exact sn _ _ a3), a4.mono kt⟩ ⟨ga, v2, rfl, SqL.of (by rw [mn_ne (Eo.ne 7 ga (by simp)).1]; exact sn _ _ b3), b4.mono kt⟩ E2.same E2.hk
end
end OP

set_option Elab.async false
set_option linter.all false
set_option maxRecDepth 100000
set_option maxHeartbeats 4000000
/-! OpH6: _law_woven -/
namespace OP
open PySem PySem.Spec PyProof.Rows L2
theorem rps5 {K : PySem.W.Frag} {C : Addr} {H : Hp} {vs : List V} {a b c d e : D} (r : Rps K C H vs [a, b, c, d, e]) : ∃ v0 v1 v2 v3 v4, vs = [v0, v1, v2, v3, v4] ∧ Rp K C H v0 a ∧ Rp K C H v1 b ∧ Rp K C H v2 c ∧ Rp K C H v3 d ∧ Rp K C H v4 e := by
  cases r with
  | cons r0 t =>
    cases t with
    | cons r1 t =>
      cases t with
      | cons r2 t =>
        cases t with
        | cons r3 t =>
          cases t with
          | cons r4 t =>
            cases t
            exact ⟨_, _, _, _, _, rfl, r0, r1, r2, r3, r4⟩
theorem eo_w0 {K : PySem.W.Frag} {C : Addr} {h : Hnd} {H0 H : Hp} {v0 v1 v2 v3 v4 : V} {d0 d1 d2 d3 d4 : D} {fa ga : Addr} {fs gs : List V} {xs ys : List D} {way : Int} (r0 : Rp K C H v0 d0) (r1 : Rp K C H v1 d1) (r2 : Rp K C H v2 d2) (r3 : Rp K C H v3 d3) (r4 : Rp K C H v4 d4)
    (hf : H fa = some (.lst fs)) (rf : Rps K C H fs xs) (hg : H ga = some (.lst gs)) (rg : Rps K C H gs ys) (fp : fa ≠ h.p) (gp : ga ≠ h.p) (f0 : H0 fa = none) (g0 : H0 ga = none) (fg : fa ≠ ga) (k0 : Hk K H0 h) (k : Hk K H h) (s : Same (mn h.p H0) (mn h.p H)) :
    Eo K C h [(6, fa), (7, ga)] H0 H [some v0, some v1, some v2, some v3, some v4, none, some (.ref fa), some (.ref ga), some (.int way), none, none, none, none, none] [some (.d d0), some (.d d1), some (.d d2), some (.d d3), some (.d d4), none, some (.l xs), some (.l ys), some (.d (.int way)), none, none, none, none, none] := by
  refine eo_make rfl (fun j w hj e => ?_) (fun j a hm => ?_) (fun j a hm => ?_) (fun j j' a hm hm' => ?_) k0 k s
  · match j, e with
    | 0, e => cases e; exact ⟨v0, _, rfl, rfl, r0⟩
    | 1, e => cases e; exact ⟨v1, _, rfl, rfl, r1⟩
    | 2, e => cases e; exact ⟨v2, _, rfl, rfl, r2⟩
    | 3, e => cases e; exact ⟨v3, _, rfl, rfl, r3⟩
    | 4, e => cases e; exact ⟨v4, _, rfl, rfl, r4⟩
    | 5, e => cases e
    | 6, e => exact absurd (by simp) hj
    | 7, e => exact absurd (by simp) hj
    | 8, e => cases e; exact ⟨_, _, rfl, rfl, .int way⟩
    | 9, e => cases e
    | 10, e => cases e
    | 11, e => cases e
    | 12, e => cases e
    | 13, e => cases e
    | n + 14, e => cases e
  · simp only [List.mem_cons, List.not_mem_nil, or_false, Prod.mk.injEq] at hm
    rcases hm with ⟨rfl, rfl⟩ | ⟨rfl, rfl⟩
    · exact ⟨_, fs, rfl, rfl, hf, rf⟩
    · exact ⟨_, gs, rfl, rfl, hg, rg⟩
  · simp only [List.mem_cons, List.not_mem_nil, or_false, Prod.mk.injEq] at hm
    rcases hm with ⟨rfl, rfl⟩ | ⟨rfl, rfl⟩
    · exact ⟨fp, f0⟩
    · exact ⟨gp, g0⟩
  · simp only [List.mem_cons, List.not_mem_nil, or_false, Prod.mk.injEq] at hm hm'
    rcases hm with ⟨rfl, rfl⟩ | ⟨rfl, rfl⟩ <;> rcases hm' with ⟨rfl, h2⟩ | ⟨rfl, h2⟩
    · rfl
    · exact absurd h2 fg
    · exact absurd h2.symm fg
    · rfl
section
variable {P : Program} {w : World} {K : PySem.W.Frag} {mg : Str → Option Value} {base : Heap} {C : Addr}
theorem ok_woven (T : Tx K mg C) : Okf P w K mg base 8 "_law_woven" (spWoven K C) := by
  obtain ⟨f, fd, hm, F⟩ := T.a__law_woven
  have nd := sc__law_woven.nd
  refine ⟨f, fd, ["_law_hand_here", "_law_kind", "_law_rows", "_law_rounds", "_law_most"], hm, F.kp, F.ok sc__law_woven (fun vs H Q E h => ?_) (fun cdv A outer s H vs Q E hr h => ?_), bn__law_woven fd f F⟩
  · obtain ⟨h, rows, r, most, hr, _⟩ := h
    exact hr.length
  obtain ⟨h, rows, r, most, hvs, hk, h1, h5, hm90, q⟩ := h
  refine ⟨wSs (bx P w K mg base n__law_woven "_law_woven" (topS 126) f cdv A outer s H E) (defBody (topS 126)), pss_w, ?_⟩
  obtain ⟨v0, v1, v2, v3, v4, rfl, r0, r1, r2, r3, r4⟩ := rps5 hvs
  have E0 := eo_start (N := n__law_woven) hk hvs
  have W0 := wf_begin (rows := rows) h5
  -- found, stood, way
  let δ0 : Dn := [some (.d (.raw (.ref h.p))), some (.d (.str "levels")), some (.d (.tup (rows.map D.int))), some (.d (.int r)), some (.d (.int (most : Nat))), none, none, none, none, none, none, none, none, none]
  have g1 : Dl C (bx P w K mg base n__law_woven "_law_woven" (topS 126) f cdv A outer s H E) δ0 (match (defBody (topS 126)).getD 0 (.Pass ⟨0, 0, 0, 0⟩) with | .Assign _ (.Tuple (e :: _) _ _) _ => e | _ => .Constant .none 0 ⟨0, 0, 0, 0⟩) [] := dl_lst dd_nil
  have g2 : Dl C (bx P w K mg base n__law_woven "_law_woven" (topS 126) f cdv A outer s H E) δ0 (match (defBody (topS 126)).getD 0 (.Pass ⟨0, 0, 0, 0⟩) with | .Assign _ (.Tuple (_ :: e :: _) _ _) _ => e | _ => .Constant .none 0 ⟨0, 0, 0, 0⟩) [eSt (begin0 rows.length)] := dl_lst (dd_cons (de_cal (ok__law_begin T) hr (da_cons ((dv 1 rfl rfl)) (da_cons ((dv 2 rfl rfl)) da_nil)) ⟨rows, rfl, h1, h5, rfl⟩) dd_nil)
  have g3 : Dh C (bx P w K mg base n__law_woven "_law_woven" (topS 126) f cdv A outer s H E) h δ0 (match (defBody (topS 126)).getD 0 (.Pass ⟨0, 0, 0, 0⟩) with | .Assign _ (.Tuple (_ :: _ :: e :: _) _ _) _ => e | _ => .Constant .none 0 ⟨0, 0, 0, 0⟩) (fun d => ∃ z : Int, 0 ≤ z ∧ z < 4 ∧ d = .int z) := dh_draw (T := T) (i := 0) (m := 4) hr de_int (by decide) (by decide) rfl
  refine wSs_cons ⟨_, ps_asg (X := (bx P w K mg base n__law_woven "_law_woven" (topS 126) f cdv A outer s H E)) (pe_tup (pa_cons pe_w (pa_cons pe_w (pa_cons pe_w pa_nil)))) (pg_tup rfl (pgs_cons (pg_name (i := 6) nd rfl (by first | exact .inl rfl | exact .inr rfl)) (pgs_cons (pg_name (i := 7) nd rfl (by first | exact .inl rfl | exact .inr rfl)) (pgs_cons (pg_name (i := 8) nd rfl (by first | exact .inl rfl | exact .inr rfl)) pgs_nil)))), ?_⟩
  have En0 : En K C (mn h.p H) (L2.start n__law_woven [v0, v1, v2, v3, v4]) δ0 := E0.en
  refine g1 _ H _ (En0.mono mn_sub) fun fa fs H1 hfa s1 hf1 rf => ?_
  have k1 := hk.mono s1
  refine g2 _ H1 _ ((En0.mono (same_mn s1)).mono mn_sub) fun ga gs H2 hga s2 hg2 rg => ?_
  have k2 := k1.mono s2
  refine g3 _ H2 _ (En0.mono ((same_mn s1).trans (same_mn s2))) k2 fun v d H3 hd s3 k3 rv => ?_
  obtain ⟨way, _, _, rfl⟩ := hd
  cases rv
  refine ⟨szl (show 3 ≤ 100000 by decide), fun t ht => ?_⟩
  have s4 := same_new (o := .tup [.ref fa, .ref ga, .int way]) ht
  have k4 := k3.mono s4
  refine ⟨t, _, rfl, SqT.of upd_same, rfl, _, _, rfl, _, _, rfl, _, _, rfl, rfl, ?_⟩
  have lp : ∀ {Hx : Hp} {l : Addr}, Hk K Hx h → Hx l = none → l ≠ h.p := fun kx hx z => by
    obtain ⟨xs, hxs⟩ := kx.lst
    rw [z, hxs] at hx
    cases hx
  have fp := lp hk hfa
  have gp := lp k1 hga
  have fg : fa ≠ ga := fun z => by
    rw [z, hga] at hf1
    cases hf1
  obtain ⟨u2, hu2⟩ := k2.lst
  have s34 : Same (mn h.p H2) (mn h.p (upd H3 t (.tup [.ref fa, .ref ga, .int way]))) := s3.trans (same_mn s4)
  have hf4 : (upd H3 t (.tup [.ref fa, .ref ga, .int way])) fa = some (.lst fs) := mn_sub _ _ (s34 _ _ (by rw [mn_ne fp]; exact s2 _ _ hf1))
  have hg4 : (upd H3 t (.tup [.ref fa, .ref ga, .int way])) ga = some (.lst gs) := mn_sub _ _ (s34 _ _ (by rw [mn_ne gp]; exact hg2))
  have kt24 : Kt H2 (upd H3 t (.tup [.ref fa, .ref ga, .int way])) := kt_mn hu2 (s34.trans mn_sub)
  have sall : Same (mn h.p H) (mn h.p (upd H3 t (.tup [.ref fa, .ref ga, .int way]))) := (same_mn s1).trans ((same_mn s2).trans s34)
  obtain ⟨u0, hu0⟩ := hk.lst
  have kt04 : Kt H (upd H3 t (.tup [.ref fa, .ref ga, .int way])) := kt_mn hu0 (sall.trans mn_sub)
  have E4 := eo_w0 (way := way) (r0.mono kt04) (r1.mono kt04) (r2.mono kt04) (r3.mono kt04) (r4.mono kt04) hf4 ((rf.mono (.of s2)).mono kt24) hg4 (rg.mono kt24) fp gp hfa (s1.free hga) fg hk k4 sall
  -- stops, one
  have main : Dm C (bx P w K mg base n__law_woven "_law_woven" (topS 126) f cdv A outer s H E) h [(6, fa), (7, ga)] [some (.d (.raw (.ref h.p))), some (.d (.str "levels")), some (.d (.tup (rows.map D.int))), some (.d (.int r)), some (.d (.int (most : Nat))), none, some (.l []), some (.l [eSt (begin0 rows.length)]), some (.d (.int way)), none, none, none, none, none] ((defBody (topS 126)).drop 1) (Zw K C h rows most) := by
    refine dm_unLD (i := 9) (j := 10) (d := .int 0) (dlh_lc (j := 13) (x := "_law_other") (xs := List.range rows.length) nI (fun i ds => ∃ xs : List Int, ds = xs.map D.int ∧ xs.length ≤ i) (blkOk_by (N := n__law_woven) (sc := defScope (topS 126)) (by decide +kernel)) (fun _ _ _ _ _ => pg_name nd rfl (by first | exact .inl rfl | exact .inr rfl)) (di_range (n := rows.length) (by omega) (De.is (de_callB dc_lenT T.f_len (da_cons ((dv 2 rfl rfl)) da_nil)) (by rw [List.length_map])) T.f_range) ⟨[], rfl, Nat.le_refl _⟩ (fun i z hz => ⟨fun _ => True, fun d => ∃ x : Int, d = .int x, fun _ _ _ _ _ => dtsh_one (Dwh.t (dwh_and (S := fun _ => True) (dth_of (dt_cmp dr_gt (dv 8 rfl rfl) de_int) trivial) (fun _ => trivial) fun _ => dwh_and1 (dth_eq0 (dh_draw (T := T) (i := 0) (m := 4) hr de_int (by decide) (by decide) rfl) (fun d ⟨z, _, _, e⟩ => ⟨z, e⟩) de_int))), fun _ _ _ _ _ _ => dh_of (dv 13 rfl rfl) ⟨_, rfl⟩, fun ds _ ⟨xs, e, hl⟩ => ⟨xs, e, by omega⟩, fun ds d _ ⟨x, hx⟩ ⟨xs, e, hl⟩ => ⟨xs ++ [x], by rw [e, hx, List.map_append]; rfl, by rw [List.length_append]; simp; omega⟩⟩) (fun i ds ⟨xs, e, hl⟩ => by rw [e, List.length_map]; exact hl) (by simp; omega) nd) de_int (fun ds hd => ?_) nd
    obtain ⟨ss, rfl, _⟩ := hd
    exact woven_loop T hr h1 h5 hm90 fa ga ss
  exact main H _ _ _ E4 fun hs q' f' g' H' a b c d e s' k' => q hs q' f' g' H' a b c d e s' k'
end
end OP

set_option Elab.async false
set_option linter.all false
set_option maxRecDepth 100000
set_option maxHeartbeats 4000000
/-! OpH7: _law_led_right -/
namespace OP
open PySem PySem.Spec PyProof.Rows L2
/-- what the machine has to do -/
structure Mth : Prop where
  good : ∀ (rows : List Int) (hs : List Nat), 1 ≤ rows.length → rows.length ≤ 5 → (∀ r ∈ rows, 0 ≤ r ∧ r ≤ 999) → Okw rows (begin0 rows.length) hs → GoodT rows (cameOf hs) (runs rows (begin0 rows.length) hs).told
  ends : ∀ (rows : List Int) (hs : List Nat), 1 ≤ rows.length → rows.length ≤ 5 → Okw rows (begin0 rows.length) hs → left (runs rows (runs rows (begin0 rows.length) hs) (outs rows 2000 (runs rows (begin0 rows.length) hs))) = []
  fin : ∀ (rows : List Int) (hs : List Nat), 1 ≤ rows.length → rows.length ≤ 5 → Okw rows (begin0 rows.length) hs → left (runs rows (begin0 rows.length) hs) = [] →
    (∀ its ∈ (runs rows (begin0 rows.length) hs).told, its.length = 1) ∧ ∀ c ∈ (runs rows (begin0 rows.length) hs).cells, ∃ l v, c = some (l, v) ∧ 1 ≤ l ∧ l ≤ (rows.length : Int)
  short : ∀ (rows : List Int), 1 ≤ rows.length → rows.length ≤ 5 → (outs rows 2000 (begin0 rows.length)).length ≤ rows.length * rows.length * (rows.length + 1)
theorem mn_mnl0 {p : Addr} {H : Hp} : Same (mn p H) (mnl p [] H) := fun a o e => by
  by_cases h : a = p
  · rw [h, mn_self] at e
    cases e
  · rw [mn_ne h] at e
    rw [mnl_ne]
    · exact e
    · rintro (z | z)
      · exact h z
      · cases z
section
variable {C : Addr} {X : Cx} {h : Hnd} {A : List (Nat × Addr)} {δ : Dn} {rest : List Stmt} {Z : Hp → Ends → Prop} {e e1 e2 e3 e4 : Expr} {pos p p1 p2 p3 : Pos}
theorem dm_un2 {i j : Nat} {x y : Str} {d1 d2 : D} {kk : Nat} {px py pt : Pos} (he : De C X δ e (.d (.tup [d1, d2]))) (k : Dm C X h A ((δ.set i (some (.d d1))).set j (some (.d d2))) rest Z) (hN : X.N.Nodup) (hiA : i ∉ A.map (·.1) := by simp) (hjA : j ∉ A.map (·.1) := by simp)
    (hi : X.N[i]? = some x := by rfl) (hj : X.N[j]? = some y := by rfl) (hc : X.calm = true := by rfl)
    (ha : (assignEach [.Name x px, .Name y py] X.env).length = 2 := by rfl) (hst : (assignEach [.Name x px, .Name y py] X.env).findIdx? (·.1) = none := by rfl)
    (hpg : PGs X [.Name x px, .Name y py] (gCons (gName i) (gCons (gName j) gNil)) := by exact pgs_cons (pg_name ‹_› rfl (by first | exact Or.inl rfl | exact Or.inr rfl)) (pgs_cons (pg_name ‹_› rfl (by first | exact Or.inl rfl | exact Or.inr rfl)) pgs_nil))
    (hs : swapsWithSole [.Tuple [.Name x px, .Name y py] kk pt] e pos.line X.env = pure false := by rfl) (hw : swappedStores [.Tuple [.Name x px, .Name y py] kk pt] e X.env = pure none := by rfl)
    (h1 : (assignEach [.Tuple [.Name x px, .Name y py] kk pt] X.env).map (·.2) = [assign (.Tuple [.Name x px, .Name y py] kk pt) X.env] := by rfl) :
    Dm C X h A δ (.Assign [.Tuple [.Name x px, .Name y py] kk pt] e pos :: rest) Z := fun H0 σ H D E z => by
  refine wSs_cons ⟨_, ps_asg pe_w (pg_tup hc hpg ha hst) hs hw h1, he σ H _ E.enH fun v H1 s1 r1 => ?_⟩
  cases r1 with
  | @tup a us _ hq rs =>
    cases rs with
    | cons r1 t =>
      cases t with
      | cons r2 t =>
        cases t
        exact ⟨a, _, rfl, hq, rfl, _, _, rfl, _, _, rfl, rfl, k H0 _ H1 D (((E.mono s1).set r1 hiA).set r2 hjA) z⟩
/-- for name in a new list -/
theorem dm_forL {α : Type} {i : Nat} {enc : α → D} {S : List α → Prop} {tg iter : Expr} {body : List Stmt} (hi : Dlh C X h δ iter (fun ds => ∃ xs : List α, ds = xs.map enc ∧ S xs)) (hg : PG X tg (gName i)) (I : Dn → Prop) (h0 : I δ)
    (step : ∀ (xs : List α) (z : α) (δ' : Dn), S xs → z ∈ xs → I δ' → Dm C X h A (δ'.set i (some (.d (enc z)))) body (Zn C X h A I)) (done : ∀ δ', I δ' → Dm C X h A δ' rest Z) (hA : i ∉ A.map (·.1) := by simp)
    (hp : PassesOwn (model X.prog X.w) X.A X.env X.xe := by exact PassesOwn.never) (hc : X.calm = true := by rfl) (hs : ∀ x, foldedSetIterable iter X.env x = pure x := by intro _; rfl) : Dm C X h A δ (.For tg iter body [] pos :: rest) Z := fun H0 σ H D E z => by
  refine wSs_cons ⟨_, ps_for hp hc pi_w hg pss_w hs, ?_⟩
  refine ⟨_, pi_list pe_w, hi σ H _ E.en E.hk fun l vs ds H1 hl rd s1 k1 h1 rs => ⟨l, rfl, ⟨vs, SqL.of h1⟩, ?_⟩⟩
  obtain ⟨xs, rfl, hS⟩ := rd
  have E1 := E.draw s1 k1
  have lf : ¬ (l = h.p ∨ l ∈ A.map (·.2)) := E.fresh hl
  refine for_it (walk_list (K := X.K) (a := l) (xs := vs)) (fun t σ Hc => ∃ δ', I δ' ∧ Eo X.K C h A H0 Hc σ δ' ∧ Hc l = some (.lst vs) ∧ Rps X.K C Hc vs (xs.map enc)) ⟨δ, h0, E1, h1, rs⟩ (fun t σ Hc _ ⟨δ', _, _, k, _⟩ => SqL.of k) (fun t x σ Hc H' ht w y => ?_) fun σ Hc ⟨δ', iw, E', _⟩ => done δ' iw H0 σ Hc D E' z
  obtain ⟨δ', iw, Ec, hlc, rsc⟩ := w
  obtain ⟨rfl, hx⟩ := y
  obtain ⟨d, hd, rd⟩ := rsc.at hx
  rw [List.getElem?_map] at hd
  cases hz : xs[t]? with
  | none => rw [hz] at hd; cases hd
  | some z0 =>
    rw [hz] at hd
    cases hd
    obtain ⟨Er, back⟩ := Ec.rebase
    refine step xs z0 δ' hS (List.mem_of_getElem? hz) iw (wo A H') _ H' _ (Er.set rd hA) fun d σ3 H3 zz E3 => ?_
    obtain ⟨E4, k4⟩ := back _ _ _ E3
    refine ⟨d, zz, E4, mn_sub _ _ (E3.same l _ ?_), rsc.mono k4⟩
    rw [mn_ne fun z => lf (.inl z), wo_ne fun z => lf (.inr z)]
    exact hlc
/-- one of a part of the weaving and the same as a tuple -/
def Dsh (C : Addr) (X : Cx) (h : Hnd) (δ : Dn) (e : Expr) (hs : List Nat) : Prop := ∀ (σ : L2.St) (H : Hp) (Q : VK), En X.K C (mn h.p H) σ δ → Hk X.K H h → (∀ v tl H', Same (mn h.p H) (mn h.p H') → Hk X.K H' h → Rw X.K C (mn h.p H') v (wvW tl hs) → Q v H') → wE X e σ H Q
theorem dsh_some {T : Tx X.K X.mg C} {i k : Nat} {x : Str} {hs : List Nat} (hr : Room k X.A) (hδ : δ[i]? = some (some (.d (.raw (.ref h.p))))) (h3 : Dl C X δ e3 (hs.map nI)) (h4 : De C X δ e4 (.d (.tup (hs.map nI)))) (hk : 2 ≤ k := by decide)
    (hN : X.N[i]? = some x := by rfl) (hv : Vis X.env.scope x := by first | exact Or.inl rfl | exact Or.inr (Or.inl rfl) | exact Or.inr (Or.inr rfl)) (hd : (x == ("__debug__" : Str)) = false := by decide) (hcd : (x == ("__classdict__" : Str)) = false := by decide)
    (ha1 : starEach [e3, e4] X.env = (false, eval e3 X.env) :: starEach [e4] X.env := by rfl) (ha2 : starEach [e4] X.env = (false, eval e4 X.env) :: starEach [] X.env := by rfl)
    (hs1 : starEach [.Name x p1, .List [e3, e4] p3] X.env = (false, eval (.Name x p1) X.env) :: starEach [.List [e3, e4] p3] X.env := by rfl) (hs2 : starEach [.List [e3, e4] p3] X.env = (false, eval (.List [e3, e4] p3) X.env) :: starEach [] X.env := by rfl) (hpl : (backTo pos (starEach [.List [e3, e4] p3] X.env)).any (·.1) = false := by rfl) (hg : Gl X "_law_some" := by rfl) :
    Dsh C X h δ (.Call (.Name "_law_some" p2) [.Name x p1, .List [e3, e4] p3] [] pos) hs := fun σ H Q E k q => by
  obtain ⟨v1, e1, r1⟩ := E.2 i _ hδ
  have ev : v1 = .ref h.p := by cases r1; rfl
  subst ev
  refine wE_call (ok_some T) (hr.mono hk) ⟨_, pa_cons (pe_var hN hv hd hcd) (pa_cons (pe_lst (pa_cons pe_w (pa_cons pe_w pa_nil ha2) ha1)) pa_nil hs2) hs1, .ref h.p, e1, ?_⟩ hg (by decide) hs1 hpl
  refine h3 σ H _ (E.mono mn_sub) fun a us H1 hla s1 h1 rs => ?_
  refine h4 σ H1 _ ((E.mono mn_sub).mono s1) fun u H2 s2 r2 => ?_
  refine ⟨szl (show 2 ≤ 100000 by decide), fun l hl => ?_⟩
  have sn := same_new (o := .lst [.ref a, u]) hl
  have k3 := ((k.mono s1).mono s2).mono sn
  obtain ⟨xs, hxs⟩ := k.lst
  have lp : l ≠ h.p := fun z => by
    rw [z, (s1.trans s2) _ _ hxs] at hl
    cases hl
  have ap : a ≠ h.p := fun z => by
    rw [z, hxs] at hla
    cases hla
  have s13 := same_mn (p := h.p) (s1.trans (s2.trans sn))
  refine ⟨h, l, [.ref a, u], rfl, k3, SqL.of (by rw [mn_ne lp]; exact upd_same), (by simp), (show 2 < 1000000 by decide), fun v hv' H' s' k' => ?_⟩
  obtain ⟨ys, hys⟩ := k3.lst
  simp only [List.mem_cons, List.not_mem_nil, or_false] at hv'
  rcases hv' with rfl | rfl
  · refine q _ false H' (s13.trans s') k' ⟨a, us, rfl, SqL.of (s' _ _ (by rw [mn_ne ap]; exact sn _ _ (s2 _ _ h1))), (rs.mono (.of (s2.trans sn))).mono (kt_mn hys s')⟩
  · exact q _ true H' (s13.trans s') k' (Rp.mono (kt_mn hys s') (Rp.mono (.of sn) r2))
/-- x, y = e1, one of .. -/
theorem dm_parH {i j : Nat} {x y : Str} {d : D} {hs : List Nat} {px py pt : Pos} {kt k2 : Nat} {pt2 : Pos} (h1 : De C X δ e1 (.d d)) (h2 : Dsh C X h δ e2 hs) (k : ∀ tl, Dm C X h [] ((δ.set i (some (.d d))).set j (some (wvW tl hs))) rest Z) (hN : X.N.Nodup) (hi : X.N[i]? = some x := by rfl) (hj : X.N[j]? = some y := by rfl) (hij : i ≠ j := by decide)
    (hx : X.env.scope.names.lookup x = some .local := by rfl) (hy : X.env.scope.names.lookup y = some .local := by rfl) (hc : X.calm = true := by rfl)
    (hs1 : starEach [e1, e2] X.env = (false, eval e1 X.env) :: starEach [e2] X.env := by rfl) (hs2 : starEach [e2] X.env = (false, eval e2 X.env) :: starEach [] X.env := by rfl)
    (hw : swappedStores [.Tuple [.Name x px, .Name y py] kt pt] (.Tuple [e1, e2] k2 pt2) X.env = pure (some [x, y]) := by rfl)
    (hs : swapsWithSole [.Tuple [.Name x px, .Name y py] kt pt] (.Tuple [e1, e2] k2 pt2) pos.line X.env = pure false := by rfl) :
    Dm C X h [] δ (.Assign [.Tuple [.Name x px, .Name y py] kt pt] (.Tuple [e1, e2] k2 pt2) pos :: rest) Z := fun H0 σ H D E z => by
  refine wSs_cons ⟨_, ps_par hc hN hi hj hij hx hy (pa_cons pe_w (pa_cons pe_w pa_nil hs2) hs1) hw hs, ?_⟩
  refine h1 σ H _ E.enH fun v H1 s1 r1 => ?_
  have E1 := E.mono s1
  refine h2 σ H1 _ E1.en E1.hk fun u tl H2 s2 k2 r2 => ?_
  have E2 := E1.draw s2 k2
  obtain ⟨xs, hxs⟩ := E1.hk.lst
  exact ⟨_, _, rfl, k tl H0 _ H2 D ((E2.set (d := d) (Rp.mono (kt_mn hxs (s2.trans mn_sub)) r1) (by simp)).setW (r2.mono mn_mnl0) (by simp)) z⟩
/-- x, y = _law_woven(..) -/
theorem dm_woven {T : Tx X.K X.mg C} {i j k : Nat} {x y : Str} {rows : List Int} {r : Int} {most : Nat} {es : List Expr} {kk : Nat} {px py pt : Pos} (hr : Room k X.A) (ha : Dd C X δ (e :: es) [.raw (.ref h.p), .str "levels", .tup (rows.map D.int), .int r, .int (most : Nat)]) (h1 : 1 ≤ rows.length) (h5 : rows.length ≤ 5) (hm : most ≤ 90)
    (k1 : ∀ hs, Okw rows (begin0 rows.length) hs → hs.length ≤ most → Dm C X h [] ((δ.set i (some (.l (hs.map nI)))).set j (some (.l (stands rows (begin0 rows.length) hs (hs.length + 1))))) rest Z) (hN : X.N.Nodup) (hk : 8 ≤ k := by decide)
    (hi : X.N[i]? = some x := by rfl) (hj : X.N[j]? = some y := by rfl) (hc : X.calm = true := by rfl)
    (haa : (assignEach [.Name x px, .Name y py] X.env).length = 2 := by rfl) (hst : (assignEach [.Name x px, .Name y py] X.env).findIdx? (·.1) = none := by rfl)
    (hpg : PGs X [.Name x px, .Name y py] (gCons (gName i) (gCons (gName j) gNil)) := by exact pgs_cons (pg_name ‹_› rfl (by first | exact Or.inl rfl | exact Or.inr rfl)) (pgs_cons (pg_name ‹_› rfl (by first | exact Or.inl rfl | exact Or.inr rfl)) pgs_nil))
    (hs : swapsWithSole [.Tuple [.Name x px, .Name y py] kk pt] (.Call (.Name "_law_woven" p1) (e :: es) [] p2) pos.line X.env = pure false := by rfl) (hw : swappedStores [.Tuple [.Name x px, .Name y py] kk pt] (.Call (.Name "_law_woven" p1) (e :: es) [] p2) X.env = pure none := by rfl)
    (h1' : (assignEach [.Tuple [.Name x px, .Name y py] kk pt] X.env).map (·.2) = [assign (.Tuple [.Name x px, .Name y py] kk pt) X.env] := by rfl) (hg : Gl X "_law_woven" := by rfl)
    (he : starEach (e :: es) X.env = (false, eval e X.env) :: starEach es X.env := by rfl) (hpl : (backTo p2 (starEach es X.env)).any (·.1) = false := by rfl) :
    Dm C X h [] δ (.Assign [.Tuple [.Name x px, .Name y py] kk pt] (.Call (.Name "_law_woven" p1) (e :: es) [] p2) pos :: rest) Z := fun H0 σ H D E z => by
  refine wSs_cons ⟨_, ps_asg pe_w (pg_tup hc hpg haa hst) hs hw h1', ?_⟩
  refine wE_call (ok_woven T) (hr.mono hk) ?_ hg (by decide) he hpl
  refine ha σ H _ E.enH fun vs H1 s1 rs => ?_
  have E1 := E.mono s1
  refine ⟨h, rows, r, most, rs, E1.hk, h1, h5, hm, fun hs q f g H' hok hl hq rf rg s2 k2 => ?_⟩
  have E2 := E1.draw s2 k2
  exact ⟨q, _, rfl, hq, rfl, _, _, rfl, _, _, rfl, rfl, k1 hs hok hl H0 _ H' D ((E2.setW (w := .l _) (Rl.mono mn_mnl0 rf) (by simp)).setW (w := .l _) (Rl.mono mn_mnl0 rg) (by simp)) z⟩
end
end OP

set_option Elab.async false
set_option linter.all false
set_option maxRecDepth 100000
set_option maxHeartbeats 4000000
/-! OpH8: _law_led_right -/
namespace OP
open PySem PySem.Spec PyProof.Rows L2
theorem pl_map {α : Type} {n : Nat} {f : α → D} {xs : List α} (hz : xs.length ≤ 50000) (h : ∀ x ∈ xs, Pl n (f x)) : Pl (n + 1) (.tup (xs.map f)) := by
  refine ⟨by rw [List.length_map]; exact hz, fun d hd => ?_⟩
  obtain ⟨x, hx, rfl⟩ := List.mem_map.mp hd
  exact h x hx
theorem pl_ints {n : Nat} {xs : List Nat} (hz : xs.length ≤ 50000) : Pl (n + 1) (.tup (xs.map nI)) := pl_map hz fun x _ => by cases n <;> trivial
theorem pl_eC (n : Nat) (c : Cell) : Pl (n + 1) (eC c) := by
  cases c with
  | none => trivial
  | some c =>
    refine ⟨(show 2 ≤ 50000 by decide), fun d hd => ?_⟩
    have hd : d = .int c.1 ∨ d = .int c.2 := by simpa using hd
    rcases hd with rfl | rfl <;> cases n <;> trivial
theorem pl_eS (n : Nat) (s : Sta) (h : ∀ l now, s = some (l, some now) → now.length ≤ 50000) : Pl (n + 3) (eS s) := by
  rcases s with _ | ⟨l, o⟩
  · trivial
  · refine ⟨(show 2 ≤ 50000 by decide), fun d hd => ?_⟩
    have hd : d = .int l ∨ d = eN o := by simpa using hd
    rcases hd with rfl | rfl
    · trivial
    · cases o with
      | none => trivial
      | some now => exact pl_map (h l now rfl) fun x _ => pl_eC n x
theorem pl_eT (n : Nat) (its : List Item) (h1 : its.length ≤ 50000) (h2 : ∀ it ∈ its, it.length ≤ 50000) : Pl (n + 3) (eT its) := pl_map h1 fun it hit => pl_map (h2 it hit) fun p _ => by
  refine ⟨(show 2 ≤ 50000 by decide), fun d hd => ?_⟩
  have hd : d = .int p.1 ∨ d = .int p.2 := by simpa using hd
  rcases hd with rfl | rfl <;> cases n <;> trivial
theorem pl_eSt {rows cs : List Int} {st : St} (W : Wf rows st) (g : GoodT rows cs st.told) : Pl 5 (eSt st) := by
  have n5 := W.n5
  refine ⟨(show 3 ≤ 50000 by decide), fun d hd => ?_⟩
  have hd : d = .tup (st.cells.map eC) ∨ d = .tup (st.states.map eS) ∨ d = .tup (st.told.map eT) := by simpa using hd
  rcases hd with rfl | rfl | rfl
  · exact pl_map (by rw [W.lc]; omega) fun x _ => pl_eC 2 x
  · refine pl_map (by rw [W.ls]; omega) fun x hx => pl_eS 0 x fun l now e => ?_
    obtain ⟨k, hk⟩ := List.getElem?_of_mem hx
    have := W.now k l now (by rw [hk, e])
    omega
  · exact pl_map (by rw [W.lt]; omega) fun x hx => pl_eT 0 x (by have := g.one x hx; omega) fun it hit => by
      have := (g.gi x hx it hit).ln
      omega
section
variable {P : Program} {w : World} {K : PySem.W.Frag} {mg : Str → Option Value} {base : Heap} {C : Addr}
def spLed (K : PySem.W.Frag) (C : Addr) : Sp := fun vs H Q _ => ∃ (h : Hnd) (rows : List Int) (r : Int) (most : Nat), Rps K C H vs [.raw (.ref h.p), .str "levels", .tup (rows.map D.int), .int r, .play rows, .int (most : Nat)] ∧ Hk K H h ∧ 1 ≤ rows.length ∧ rows.length ≤ 5 ∧ (∀ r ∈ rows, 0 ≤ r ∧ r ≤ 999) ∧ most ≤ 90 ∧
  ∀ (hs : List Nat) (v : V) (H' : Hp), Okw rows (begin0 rows.length) hs → left (runs rows (begin0 rows.length) hs) = [] → Rp K C H' v (eSt (runs rows (begin0 rows.length) hs)) → Same (mn h.p H) (mn h.p H') → Hk K H' h → Q v H'
theorem okw_lt {rows : List Int} : ∀ {hs : List Nat} {s : St}, Wf rows s → Okw rows s hs → ∀ i ∈ hs, i < rows.length
  | [], _, _, _, i, hi => nomatch hi
  | k :: r, s, W, o, i, hi => by
    obtain ⟨⟨x, hx⟩, o2⟩ := o
    rcases List.mem_cons.mp hi with rfl | hi
    · exact hand_lt W hx
    · exact okw_lt (wf_moved W k) o2 i hi
theorem left_le {rows : List Int} {st : St} (W : Wf rows st) : (left st).length ≤ rows.length := by
  unfold left
  rw [List.length_map]
  refine Nat.le_trans (List.length_filter_le _ _) ?_
  rw [List.length_zipIdx, W.ls]
  exact Nat.le_refl _
theorem okw_take {rows : List Int} {s : St} {hs : List Nat} (h : Okw rows s hs) (n : Nat) : Okw rows s (hs.take n) := by
  have e : hs.take n ++ hs.drop n = hs := List.take_append_drop n hs
  rw [← e] at h
  exact (okw_app.mp h).1
theorem ok_led (M : Mth) (T : Tx K mg C) : Okf P w K mg base 10 "_law_led_right" (spLed K C) := by
  obtain ⟨f, fd, hm, F⟩ := T.a__law_led_right
  have nd := sc__law_led_right.nd
  refine ⟨f, fd, ["_law_hand_here", "_law_kind", "_law_rows", "_law_rounds", "_law_play", "_law_most"], hm, F.kp, F.ok sc__law_led_right (fun vs H Q E h => ?_) (fun cdv A outer s H vs Q E hr h => ?_), bn__law_led_right fd f F⟩
  · obtain ⟨h, rows, r, most, hr, _⟩ := h
    exact hr.length
  obtain ⟨h, rows, r, most, hvs, hk, h1, h5, hv, hm90, q⟩ := h
  refine ⟨wSs (bx P w K mg base n__law_led_right "_law_led_right" (topS 136) f cdv A outer s H E) (defBody (topS 136)), pss_w, ?_⟩
  have W0 := wf_begin (rows := rows) h5
  -- facts of what is reached
  have good : ∀ hs, Okw rows (begin0 rows.length) hs → GoodT rows (cameOf hs) (runs rows (begin0 rows.length) hs).told := fun hs ho => M.good rows hs h1 h5 hv ho
  have pls : ∀ hs, Okw rows (begin0 rows.length) hs → Pl 5 (eSt (runs rows (begin0 rows.length) hs)) := fun hs ho => pl_eSt (wf_runs W0) (good hs ho)
  have lt5 : ∀ hs, Okw rows (begin0 rows.length) hs → ∀ i ∈ hs, i < 5 := fun hs ho i hi => by
    have := okw_lt W0 ho i hi
    omega
  have main : Dm C (bx P w K mg base n__law_led_right "_law_led_right" (topS 136) f cdv A outer s H E) h [] (startW n__law_led_right ([.raw (.ref h.p), .str "levels", .tup (rows.map D.int), .int r, .play rows, .int (most : Nat)].map W.d)) (defBody (topS 136)) (Zr C (bx P w K mg base n__law_led_right "_law_led_right" (topS 136) f cdv A outer s H E) h fun d => ∃ hs, Okw rows (begin0 rows.length) hs ∧ left (runs rows (begin0 rows.length) hs) = [] ∧ d = eSt (runs rows (begin0 rows.length) hs)) := by
    refine dm_woven (T := T) (i := 7) (j := 8) hr (dd_cons ((dv 0 rfl rfl)) (dd_cons ((dv 1 rfl rfl)) (dd_cons ((dv 2 rfl rfl)) (dd_cons ((dv 3 rfl rfl)) (dd_cons ((dv 5 rfl rfl)) dd_nil))))) h1 h5 hm90 (fun hs hok hl => ?_) nd
    have hat : ∀ {j : Nat}, j ≤ hs.length → atI (stands rows (begin0 rows.length) hs (hs.length + 1)) ((j : Nat) : Int) = some (eSt (runs rows (begin0 rows.length) (hs.take j))) := fun {j} hj => by
      unfold stands
      exact atI_nat (by rw [List.getElem?_map, List.getElem?_range (by omega)]; rfl)
    have h00 : atI (stands rows (begin0 rows.length) hs (hs.length + 1)) 0 = some (eSt (begin0 rows.length)) := hat (j := 0) (Nat.zero_le _)
    have hlast : atI (stands rows (begin0 rows.length) hs (hs.length + 1)) (-1) = some (eSt (runs rows (begin0 rows.length) hs)) := by
      rw [stands_succ, List.take_length]
      exact atI_last _ _
    refine dm_skip (Dt.is (dt_not (dt_val (x := true) (de_cal (ok_law_is T 5) hr (da_cons (de_cal (ok_first_standing T) hr (da_cons ((dv 4 rfl rfl)) da_nil) ⟨rows, rfl, h1, h5, rfl⟩) (da_cons (de_ix (dx_l h00) (dv 8 rfl rfl) de_int) da_nil)) ⟨.d (eSt (begin0 rows.length)), rfl, pls [] trivial, rfl⟩))) rfl) ?_
    refine dm_forL (i := 6) (α := Nat) (enc := nI) (S := fun xs => xs.length = 3 ∧ ∀ x ∈ xs, x ≤ hs.length) (dlh_lst (dah_cons (dh_of (de_callB dc_lenL T.f_len (da_cons ((dv 7 rfl rfl)) da_nil)) rfl) fun d e => dah_cons (dh_draw (T := T) (i := 0) (m := ((hs.map nI).length : Int) + 1) hr (de_bin dr_add (de_callB dc_lenL T.f_len (da_cons ((dv 7 rfl rfl)) da_nil)) de_int) (by omega) (by rw [List.length_map]; omega) rfl) fun d2 e2 => dah_cons (dh_draw (T := T) (i := 0) (m := ((hs.map nI).length : Int) + 1) hr (de_bin dr_add (de_callB dc_lenL T.f_len (da_cons ((dv 7 rfl rfl)) da_nil)) de_int) (by omega) (by rw [List.length_map]; omega) rfl) fun d3 e3 => dah_nil ?_) (fun ds ⟨xs, e, hxs⟩ => ?_)) (pg_name nd rfl (by first | exact .inl rfl | exact .inr rfl)) (fun δ' => ∃ a b c d, δ' = [some (.d (.raw (.ref h.p))), some (.d (.str "levels")), some (.d (.tup (rows.map D.int))), some (.d (.int r)), some (.d (.play rows)), some (.d (.int (most : Nat))), a, some (.l (hs.map nI)), some (.l (stands rows (begin0 rows.length) hs (hs.length + 1))), b, none, none, c, d]) ⟨none, none, none, none, rfl⟩ (fun xs at_ δ' hS hmem hI => ?_) fun δ' hI => ?_
    · obtain ⟨z2, a1, a2, rfl⟩ := e2
      obtain ⟨z3, b1, b2, rfl⟩ := e3
      subst e
      rw [List.length_map] at a2 b2
      obtain ⟨j2, rfl⟩ := Int.eq_ofNat_of_zero_le a1
      obtain ⟨j3, rfl⟩ := Int.eq_ofNat_of_zero_le b1
      refine ⟨[hs.length, j2, j3], by rw [List.length_map]; rfl, rfl, fun x hx => ?_⟩
      simp only [List.mem_cons, List.not_mem_nil, or_false] at hx
      rcases hx with rfl | rfl | rfl <;> omega
    · obtain ⟨e3, _⟩ := hxs
      rw [e, List.length_map, e3]
      decide
    · obtain ⟨a, b, c, d, rfl⟩ := hI
      have ha := hS.2 at_ hmem
      have hok' := okw_take hok at_
      have hl' : (hs.take at_).length ≤ 90 := by rw [List.length_take]; omega
      have Wt := wf_runs (hs := hs.take at_) W0
      have Gd := good _ hok'
      have Pd := pls _ hok'
      have cut : cutD (hs.map nI) none (some (at_ : Int)) = (hs.take at_).map nI := by rw [cutD_upto (by rw [List.length_map]; exact ha), List.map_take]
      refine dm_parH (i := 12) (j := 13) (hs := hs.take at_) (de_ix (dx_l (hat ha)) (dv 8 rfl rfl) (dv 6 rfl rfl)) (dsh_some (T := T) (i := 0) hr rfl (Dl.is (dl_slL (dv 7 rfl rfl) do_none (do_some (i := (at_ : Int)) (dv 6 rfl rfl))) cut) (De.is (de_callTy dc_tupL T.f_tuple (da_cons (de_of_l (dl_slL (dv 7 rfl rfl) do_none (do_some (i := (at_ : Int)) (dv 6 rfl rfl)))) da_nil)) (by rw [cut]))) (fun tl => ?_) nd
      generalize hs.take at_ = hs' at hok' hl' Wt Gd Pd ⊢
      have l5 := lt5 hs' hok'
      generalize hst : runs rows (begin0 rows.length) hs' = st at Wt Gd Pd ⊢
      have hll := left_le Wt
      refine dm_skip (Dt.is (dt_not (dt_val (x := true) (de_cal (ok_law_is T 6) hr (da_cons (de_of_l (dl_lst (dd_cons (de_cal (ok_run T) hr (da_cons ((dv 4 rfl rfl)) (da_cons ((dv 13 rfl rfl)) da_nil)) ⟨rows, hs', tl, rfl, h1, h5, hok', by omega, rfl⟩) (dd_cons (de_cal (ok_can_step T) hr (da_cons ((dv 4 rfl rfl)) (da_cons ((dv 12 rfl rfl)) da_nil)) ⟨rows, st, rfl, by rw [Wt.ls]; omega, rfl⟩) dd_nil)))) (da_cons (de_of_l (dl_lst (dd_cons ((dv 12 rfl rfl)) (dd_cons (de_cal (ok__law_left T) hr (da_cons ((dv 12 rfl rfl)) da_nil) ⟨st, rfl, by rw [Wt.ls]; omega, rfl⟩) dd_nil)))) da_nil)) ⟨.l [eSt st, .tup ((left st).map nI)], by rw [hst], ⟨(show 2 ≤ 50000 by decide), fun d hd => ?_⟩, rfl⟩))) rfl) ?_
      · have hd : d = eSt st ∨ d = .tup ((left st).map nI) := by simpa using hd
        rcases hd with rfl | rfl
        · exact Pd
        · exact pl_ints (by omega)
      refine dm_skip (Dt.is (dt_cmp dr_notN (de_cal (ok_fault T) hr (da_cons ((dv 4 rfl rfl)) (da_cons (de_cal (ok__law_came T) hr (da_cons ((dv 13 rfl rfl)) da_nil) ⟨hs', tl, rfl, by omega, l5, rfl⟩) (da_cons (de_ix (dx_t (d := .tup (st.told.map eT)) rfl) (dv 12 rfl rfl) de_int) da_nil))) ⟨rows, cameOf hs', st.told, rfl, Gd, rfl⟩) de_non) rfl) ?_
      refine dm_skip (Dt.is (dt_cmp dr_notN (de_cal (ok__law_fault T) hr (da_cons ((dv 1 rfl rfl)) (da_cons ((dv 2 rfl rfl)) (da_cons ((dv 3 rfl rfl)) (da_cons (de_cal (ok__law_came T) hr (da_cons ((dv 13 rfl rfl)) da_nil) ⟨hs', tl, rfl, by omega, l5, rfl⟩) (da_cons (de_ix (dx_t (d := .tup (st.told.map eT)) rfl) (dv 12 rfl rfl) de_int) da_nil))))) ⟨rows, cameOf hs', r, st.told, rfl, Gd, rfl⟩) de_non) rfl) ?_
      refine dm_for (i := 9) (enc := nI) (xs := left st) (di_tupM (de_cal (ok__law_left T) hr (da_cons ((dv 12 rfl rfl)) da_nil) ⟨st, rfl, by rw [Wt.ls]; omega, rfl⟩)) (pg_name nd rfl (by first | exact .inl rfl | exact .inr rfl)) (fun t δ' => ∃ a b, δ' = [some (.d (.raw (.ref h.p))), some (.d (.str "levels")), some (.d (.tup (rows.map D.int))), some (.d (.int r)), some (.d (.play rows)), some (.d (.int (most : Nat))), a, some (.l (hs.map nI)), some (.l (stands rows (begin0 rows.length) hs (hs.length + 1))), b, none, none, some (.d (eSt st)), some (wvW tl hs')]) ⟨_, _, rfl⟩ (fun t k δ' hz hI => ?_) fun δ' hI => ?_
      · obtain ⟨a, b, rfl⟩ := hI
        obtain ⟨x, hx⟩ := left_mem (List.mem_of_getElem? hz)
        have hst' : atI (st.states.map eS) (((k : Nat)) : Int) = some (eS (some x)) := atI_map eS hx
        have Pm : Pl 5 (eSt (moved rows st k)) := by
          have z := pls (hs' ++ [k]) (okw_app.mpr ⟨hok', ⟨x, by rw [hst]; exact hx⟩, trivial⟩)
          rw [runs_snoc, hst] at z
          exact z
        refine dm_skip (Dt.is (dt_not (dt_val (x := true) (de_cal (ok_law_is T 2) hr (da_cons (de_of_l (dl_lst (dd_cons (de_cal (ok_next_step T) hr (da_cons ((dv 4 rfl rfl)) (da_cons ((dv 12 rfl rfl)) (da_cons ((dv 9 rfl rfl)) da_nil))) ⟨rows, st, k, x, rfl, Wt, hx, rfl⟩) dd_nil))) (da_cons (de_of_l (dl_lst (dd_cons (de_cal (ok__law_next T) hr (da_cons ((dv 1 rfl rfl)) (da_cons (de_ix (dx_t hst') (de_ix (dx_t (d := .tup (st.states.map eS)) rfl) (dv 12 rfl rfl) de_int) (dv 9 rfl rfl)) da_nil)) ⟨x.1, x.2, rfl, rfl⟩) dd_nil))) da_nil)) ⟨.l [nextD x.2], rfl, ⟨(show 1 ≤ 50000 by decide), fun d hd => ?_⟩, rfl⟩))) rfl) ?_
        · obtain rfl := List.mem_singleton.mp hd
          cases x.2 with
          | none => exact ⟨(show 1 ≤ 50000 by decide), fun d hd => by obtain rfl := List.mem_singleton.mp hd; trivial⟩
          | some now =>
            refine ⟨(show 2 ≤ 50000 by decide), fun d hd => ?_⟩
            have hd : d = .str "look" ∨ d = .int (now.length : Int) := by simpa using hd
            rcases hd with rfl | rfl <;> trivial
        refine dm_skip (Dt.is (dt_not (dt_val (x := true) (de_cal (ok_law_is T 5) hr (da_cons (de_cal (ok_step T) hr (da_cons ((dv 4 rfl rfl)) (da_cons ((dv 12 rfl rfl)) (da_cons ((dv 9 rfl rfl)) da_nil))) ⟨rows, st, k, x, rfl, Wt, hx, rfl⟩) (da_cons (de_cal (ok__law_moved T) hr (da_cons ((dv 1 rfl rfl)) (da_cons ((dv 2 rfl rfl)) (da_cons ((dv 3 rfl rfl)) (da_cons ((dv 12 rfl rfl)) (da_cons ((dv 9 rfl rfl)) da_nil))))) ⟨rows, r, st, k, x, rfl, Wt, hx, rfl⟩) da_nil)) ⟨.d (eSt (moved rows st k)), rfl, Pm, rfl⟩))) rfl) ?_
        exact dm_nil ⟨a, some (.d (nI k)), rfl⟩
      · obtain ⟨a, b, rfl⟩ := hI
        exact dm_nil ⟨_, _, _, _, rfl⟩
    · obtain ⟨a, b, c, d, rfl⟩ := hI
      have Wr := wf_runs (hs := hs) W0
      have hend := M.ends rows hs h1 h5 hok
      have hol := outs_length (rows := rows) 2000 (runs rows (begin0 rows.length) hs)
      have ra : runs rows (begin0 rows.length) (hs ++ outs rows 2000 (runs rows (begin0 rows.length) hs)) = runs rows (runs rows (begin0 rows.length) hs) (outs rows 2000 (runs rows (begin0 rows.length) hs)) := runs_app
      have oka : Okw rows (begin0 rows.length) (hs ++ outs rows 2000 (runs rows (begin0 rows.length) hs)) := okw_app.mpr ⟨hok, okw_outs _ _⟩
      have hwl : (hs ++ outs rows 2000 (runs rows (begin0 rows.length) hs)).length ≤ 2090 := by rw [List.length_append]; omega
      refine dm_un2 (i := 10) (j := 11) (de_cal (ok__law_whole T) hr (da_cons ((dv 1 rfl rfl)) (da_cons ((dv 2 rfl rfl)) (da_cons ((dv 3 rfl rfl)) (da_cons ((dv 7 rfl rfl)) (da_cons (de_ix (dx_l hlast) (dv 8 rfl rfl) (de_neg de_int)) da_nil))))) ⟨rows, r, hs, _, rfl, Wr, by omega, rfl⟩) ?_ nd
      have Gw := good _ oka
      have Pw := pls _ oka
      have lw := lt5 _ oka
      rw [← ra]
      rw [← ra] at hend
      generalize hwh : hs ++ outs rows 2000 (runs rows (begin0 rows.length) hs) = whole at oka hwl Gw Pw lw hend ra ⊢
      refine dm_skip (Dt.is (Dw.t (dw_or (dt_not (dt_val (x := true) (de_cal (ok_law_is T 1) hr (da_cons (de_cal (ok_run_out T) hr (da_cons ((dv 4 rfl rfl)) (da_cons ((dv 7 rfl rfl)) da_nil)) ⟨rows, hs, false, 2000, rfl, h1, h5, hok, by omega, by rw [← ra]; exact hend, rfl⟩) (da_cons ((dv 10 rfl rfl)) da_nil)) ⟨.d (.tup (whole.map nI)), by rw [hwh], pl_ints (by omega), rfl⟩))) fun _ => dw_or1 (dt_not (dt_val (x := true) (de_cal (ok_law_is T 5) hr (da_cons (de_cal (ok_run T) hr (da_cons ((dv 4 rfl rfl)) (da_cons ((dv 10 rfl rfl)) da_nil)) ⟨rows, whole, true, rfl, h1, h5, oka, by omega, rfl⟩) (da_cons ((dv 11 rfl rfl)) da_nil)) ⟨_, rfl, Pw, rfl⟩))))) rfl) ?_
      refine dm_ret (de_ifT (Dt.is (dt_cmp dr_isN (de_cal (ok__law_fault T) hr (da_cons ((dv 1 rfl rfl)) (da_cons ((dv 2 rfl rfl)) (da_cons ((dv 3 rfl rfl)) (da_cons (de_cal (ok__law_came T) hr (da_cons ((dv 10 rfl rfl)) da_nil) ⟨whole, true, rfl, by omega, lw, rfl⟩) (da_cons (de_ix (dx_t (d := .tup ((runs rows (begin0 rows.length) whole).told.map eT)) rfl) (dv 11 rfl rfl) de_int) da_nil))))) ⟨rows, cameOf whole, r, _, rfl, Gw, rfl⟩) de_non) rfl) (dv 11 rfl rfl)) ⟨whole, oka, hend, rfl⟩
  refine main H _ H _ (eo_start hk hvs) fun v d H' hd s' k' rv => ?_
  obtain ⟨hs, a, b, rfl⟩ := hd
  exact q hs v H' a b rv s' k'
end
end OP

set_option Elab.async false
set_option linter.all false
set_option maxRecDepth 100000
set_option maxHeartbeats 4000000
/-! OpH9: law -/
namespace OP
open PySem PySem.Spec PyProof.Rows L2
section
variable {C : Addr} {X : Cx} {h : Hnd} {A : List (Nat × Addr)} {δ : Dn} {rest : List Stmt} {Z : Hp → Ends → Prop} {e : Expr} {es : List Expr} {pos p p1 p2 p3 : Pos}
theorem dh_inputs {T : Tx X.K X.mg C} {i j k : Nat} {x : Str} (hr : Room k X.A) (hδ : δ[i]? = some (some (.d (.raw (.ref h.p))))) (hk : 3 ≤ k := by decide) (hN : X.N[i]? = some x := by rfl) (hv : Vis X.env.scope x := by first | exact Or.inl rfl | exact Or.inr (Or.inl rfl) | exact Or.inr (Or.inr rfl)) (hd : (x == ("__debug__" : Str)) = false := by decide) (hcd : (x == ("__classdict__" : Str)) = false := by decide)
    (hs1 : starEach [.Name x p1, .Constant (.str "levels") j p3] X.env = (false, eval (.Name x p1) X.env) :: starEach [.Constant (.str "levels") j p3] X.env := by rfl) (hs2 : starEach [.Constant (.str "levels") j p3] X.env = (false, eval (.Constant (.str "levels") j p3) X.env) :: starEach [] X.env := by rfl) (hpl : (backTo pos (starEach [.Constant (.str "levels") j p3] X.env)).any (·.1) = false := by rfl) (hg : Gl X "_law_inputs" := by rfl) :
    Dh C X h δ (.Call (.Name "_law_inputs" p2) [.Name x p1, .Constant (.str "levels") j p3] [] pos) (fun d => ∃ rows : List Int, (1 ≤ rows.length ∧ rows.length ≤ 5 ∧ ∀ r ∈ rows, 0 ≤ r ∧ r ≤ 999) ∧ d = .tup [.tup (rows.map D.int), .tup (rows.map D.int), .int 0]) := fun σ H Q E k q => by
  obtain ⟨v1, e1, r1⟩ := E.2 i _ hδ
  have ev : v1 = .ref h.p := by cases r1; rfl
  subst ev
  refine wE_call (ok_inputs T) (hr.mono hk) ⟨_, pa_cons (pe_var hN hv hd hcd) (pa_cons pe_str pa_nil hs2) hs1, .ref h.p, e1, ?_⟩ hg (by decide) hs1 hpl
  exact ⟨h, rfl, k, fun rows v H' a b c s k' r => q v _ H' ⟨rows, ⟨a, b, c⟩, rfl⟩ s k' r⟩
theorem dh_led {T : Tx X.K X.mg C} (M : Mth) {k : Nat} {rows : List Int} (hr : Room k X.A) (ha : Dah C X h δ (e :: es) (fun ds => ∃ (r : Int) (m : Nat), m ≤ 90 ∧ ds = [.raw (.ref h.p), .str "levels", .tup (rows.map D.int), .int r, .play rows, .int (m : Nat)])) (h1 : 1 ≤ rows.length) (h5 : rows.length ≤ 5) (hv : ∀ r ∈ rows, 0 ≤ r ∧ r ≤ 999) (hk : 10 ≤ k := by decide) (hg : Gl X "_law_led_right" := by rfl)
    (he : starEach (e :: es) X.env = (false, eval e X.env) :: starEach es X.env := by rfl) (hpl : (backTo pos (starEach es X.env)).any (·.1) = false := by rfl) :
    Dh C X h δ (.Call (.Name "_law_led_right" p2) (e :: es) [] pos) (fun d => ∃ hs, Okw rows (begin0 rows.length) hs ∧ left (runs rows (begin0 rows.length) hs) = [] ∧ d = eSt (runs rows (begin0 rows.length) hs)) := fun σ H Q E k q => by
  refine wE_call (ok_led M T) (hr.mono hk) ?_ hg (by decide) he hpl
  refine ha σ H _ E k fun vs ds H1 hd s1 k1 rs => ?_
  obtain ⟨r, m, hm, rfl⟩ := hd
  exact ⟨h, rows, r, m, rs, k1, h1, h5, hv, hm, fun hs v H' a b c s k' => q v _ H' ⟨hs, a, b, rfl⟩ (s1.trans s) k' c⟩
theorem dm_un3H {i j l : Nat} {x y z : Str} {S : D → D → D → Prop} {R : D → Prop} {kk : Nat} {px py pz pt : Pos} (he : Dh C X h δ e R) (hR : ∀ d, R d → ∃ d1 d2 d3, d = .tup [d1, d2, d3] ∧ S d1 d2 d3) (k : ∀ d1 d2 d3, S d1 d2 d3 → Dm C X h A (((δ.set i (some (.d d1))).set j (some (.d d2))).set l (some (.d d3))) rest Z) (hN : X.N.Nodup) (hiA : i ∉ A.map (·.1) := by simp) (hjA : j ∉ A.map (·.1) := by simp) (hlA : l ∉ A.map (·.1) := by simp)
    (hi : X.N[i]? = some x := by rfl) (hj : X.N[j]? = some y := by rfl) (hl : X.N[l]? = some z := by rfl) (hc : X.calm = true := by rfl)
    (ha : (assignEach [.Name x px, .Name y py, .Name z pz] X.env).length = 3 := by rfl) (hst : (assignEach [.Name x px, .Name y py, .Name z pz] X.env).findIdx? (·.1) = none := by rfl)
    (hpg : PGs X [.Name x px, .Name y py, .Name z pz] (gCons (gName i) (gCons (gName j) (gCons (gName l) gNil))) := by exact pgs_cons (pg_name ‹_› rfl (by first | exact Or.inl rfl | exact Or.inr rfl)) (pgs_cons (pg_name ‹_› rfl (by first | exact Or.inl rfl | exact Or.inr rfl)) (pgs_cons (pg_name ‹_› rfl (by first | exact Or.inl rfl | exact Or.inr rfl)) pgs_nil)))
    (hs : swapsWithSole [.Tuple [.Name x px, .Name y py, .Name z pz] kk pt] e pos.line X.env = pure false := by rfl) (hw : swappedStores [.Tuple [.Name x px, .Name y py, .Name z pz] kk pt] e X.env = pure none := by rfl)
    (h1 : (assignEach [.Tuple [.Name x px, .Name y py, .Name z pz] kk pt] X.env).map (·.2) = [assign (.Tuple [.Name x px, .Name y py, .Name z pz] kk pt) X.env] := by rfl) :
    Dm C X h A δ (.Assign [.Tuple [.Name x px, .Name y py, .Name z pz] kk pt] e pos :: rest) Z := fun H0 σ H D E zz => by
  refine wSs_cons ⟨_, ps_asg pe_w (pg_tup hc hpg ha hst) hs hw h1, he σ H _ E.en E.hk fun v d H1 rd s1 k1 r1 => ?_⟩
  obtain ⟨d1, d2, d3, rfl, hS⟩ := hR d rd
  cases r1 with
  | @tup a us _ hq rs =>
    cases rs with
    | cons r1 t =>
      cases t with
      | cons r2 t =>
        cases t with
        | cons r3 t =>
          cases t
          exact ⟨a, _, rfl, hq, rfl, _, _, rfl, _, _, rfl, _, _, rfl, rfl, k d1 d2 d3 hS H0 _ H1 D ((((E.draw s1 k1).set r1 hiA).set r2 hjA).set r3 hlA) zz⟩
end
section
variable {P : Program} {w : World} {K : PySem.W.Frag} {mg : Str → Option Value} {base : Heap} {C : Addr}
def spLaw (K : PySem.W.Frag) : Sp := fun vs H Q _ => ∃ (l : Addr) (ns : List Int), vs = [.ref l] ∧ SqL K H l (ns.map V.int) ∧ ns.length ≤ 1000 ∧ ∀ (H' : Hp), Q (.bl true) H'
theorem law_fn (M : Mth) (T : Tx K mg C) {f : Addr} {fd : FuncData} (F : Fun K "law" "law" (topS 137) f fd) : FnOk P w K mg base CX0 11 f fd ["_law_script"] (spLaw K) := by
  have nd := sc_law.nd
  refine F.ok sc_law (fun vs H Q E h => ?_) (fun cdv A outer s H vs Q E hr h => ?_)
  · obtain ⟨l, ns, rfl, _⟩ := h
    rfl
  obtain ⟨l, ns, rfl, hs, hz, q⟩ := h
  refine ⟨wSs (bx P w K mg base n_law "law" (topS 137) f cdv A outer s H E) (defBody (topS 137)), pss_w, ?_⟩
  -- the hand
  refine wSs_cons ⟨_, ps_set (X := (bx P w K mg base n_law "law" (topS 137) f cdv A outer s H E)) (i := 1) nd rfl (by first | exact Or.inl rfl | exact Or.inr rfl) pe_w rfl, ?_⟩
  refine wE_call (X := (bx P w K mg base n_law "law" (topS 137) f cdv A outer s H E)) (ok_hand T) (hr.mono (by decide)) ⟨_, pa_cons (pe_var (i := 0) rfl (.inl rfl) (by decide) (by decide)) pa_nil, .ref l, rfl, l, ns, rfl, hs, hz, fun h H1 s1 hp k1 => ?_⟩
  have E1 : Eo K C h [] H1 H1 ((L2.start n_law [.ref l]).set 1 (some (.ref h.p))) [none, some (.d (.raw (.ref h.p))), none, none, none, none, none, none, none, none, none] := by
    refine eo_make rfl (fun j w hj e => ?_) (fun j a z => (nomatch z)) (fun j a z => (nomatch z)) (fun j j' a z => (nomatch z)) k1 k1 (Same.refl _)
    match j, e with
    | 0, e => cases e
    | 1, e => cases e; exact ⟨_, _, rfl, rfl, .raw _⟩
    | 2, e => cases e
    | 3, e => cases e
    | 4, e => cases e
    | 5, e => cases e
    | 6, e => cases e
    | 7, e => cases e
    | 8, e => cases e
    | 9, e => cases e
    | 10, e => cases e
    | n + 11, e => cases e
  have main : Dm C (bx P w K mg base n_law "law" (topS 137) f cdv A outer s H E) h [] [none, some (.d (.raw (.ref h.p))), none, none, none, none, none, none, none, none, none] ((defBody (topS 137)).drop 1) (Zr C (bx P w K mg base n_law "law" (topS 137) f cdv A outer s H E) h fun d => d = .bl true) := by
    refine dm_for (i := 2) (enc := nI) (xs := List.range 3) (di_range (n := 3) (by decide) de_int T.f_range) (pg_name nd rfl (by first | exact .inl rfl | exact .inr rfl)) (fun t δ' => ∃ a b c d e f g, δ' = [none, some (.d (.raw (.ref h.p))), a, b, c, d, e, f, g, none, none]) ⟨_, _, _, _, _, _, _, rfl⟩ (fun t z δ' hz hI => ?_) fun δ' hI => ?_
    · obtain ⟨a, b, c, d, e, f, g, rfl⟩ := hI
      refine dm_un3H (i := 4) (j := 5) (l := 6) (S := fun d1 d2 d3 => ∃ rows : List Int, (1 ≤ rows.length ∧ rows.length ≤ 5 ∧ ∀ r ∈ rows, 0 ≤ r ∧ r ≤ 999) ∧ d1 = .tup (rows.map D.int) ∧ d2 = .tup (rows.map D.int) ∧ d3 = .int 0) (dh_inputs (T := T) (i := 1) hr rfl) (fun d ⟨rows, hrw, e⟩ => ⟨_, _, _, e, rows, hrw, rfl, rfl, rfl⟩) (fun d1 d2 d3 hS => ?_) nd
      obtain ⟨rows, ⟨h1, h5, hv⟩, rfl, rfl, rfl⟩ := hS
      refine dm_un2 (i := 7) (j := 8) (d1 := .play rows) (d2 := .int (rows.length : Nat)) (De.is (de_tup (dd_cons (de_mk (P := P) (w := w) T rfl rfl rfl rfl hr (da_cons (de_str) (da_cons ((dv 4 rfl rfl)) da_nil)) h1 h5 hv) (dd_cons ((de_callB dc_lenT T.f_len (da_cons ((dv 5 rfl rfl)) da_nil))) dd_nil))) (by rw [List.length_map])) ?_ nd
      refine dm_setH (i := 3) (dh_led (T := T) M hr (dah_cons (dh_of (dv 1 rfl rfl) rfl) fun d e => dah_cons (dh_of de_str rfl) fun d2 e2 => dah_cons (dh_of (dv 5 rfl rfl) rfl) fun d3 e3 => dah_cons (dh_of (dv 6 rfl rfl) rfl) fun d4 e4 => dah_cons (dh_of (dv 7 rfl rfl) rfl) fun d5 e5 => dah_cons (dh_draw (T := T) (i := 1) (m := 91) hr de_int (by decide) (by decide) rfl) fun d6 e6 => dah_nil ?_) h1 h5 hv) (fun d hd => ?_) nd
      · obtain ⟨z6, z0, z1, rfl⟩ := e6
        subst e e2 e3 e4 e5
        obtain ⟨m, rfl⟩ := Int.eq_ofNat_of_zero_le z0
        exact ⟨0, m, by omega, rfl⟩
      obtain ⟨hs, hok, hl, rfl⟩ := hd
      obtain ⟨f1, f2⟩ := M.fin rows hs h1 h5 hok hl
      have Ws := wf_runs (hs := hs) (wf_begin (rows := rows) h5)
      generalize runs rows (begin0 rows.length) hs = st at f1 f2 Ws ⊢
      refine dm_skip (Dt.is (Dw.t (dw_or (dt_cmp dr_isN (dv 3 rfl rfl) de_non) fun _ => dw_or1 (dt_not (dt_val (x := true) (de_allT (dl_lcN (t := true) (own := [("_law_items", 10)]) (g := gName 10) (xs := st.told) (enc := fun i => .d (eT i)) (fun _ => .bl true) (blkOk_by (N := n_law) (sc := defScope (topS 137)) (by decide +kernel)) (fun _ _ _ _ _ => pg_name nd rfl (by first | exact .inl rfl | exact .inr rfl)) (di_tupM (de_ix (dx_t (d := .tup (st.told.map eT)) rfl) (dv 3 rfl rfl) de_int)) nd (by rw [Ws.lt]; omega) fun i hi => ⟨_, dg_name, fun _ _ _ _ _ => De.is (de_cmp dr_eqI (de_callB dc_lenT T.f_len (da_cons ((dv 10 rfl rfl)) da_nil)) de_int) (by rw [List.length_map, f1 i hi]; rfl)⟩) T.f_all))))) rfl) ?_
      refine dm_skip (Dt.is (dt_not (dt_val (x := true) (de_allT (dl_lcN (t := true) (own := [("_law_cell", 9)]) (g := gName 9) (xs := st.cells) (enc := fun i => .d (eC i)) (fun _ => .bl true) (blkOk_by (N := n_law) (sc := defScope (topS 137)) (by decide +kernel)) (fun _ _ _ _ _ => pg_name nd rfl (by first | exact .inl rfl | exact .inr rfl)) (di_tupM (de_ix (dx_t (d := .tup (st.cells.map eC)) rfl) (dv 3 rfl rfl) de_int)) nd (by rw [Ws.lc]; omega) fun i hi => ⟨_, dg_name, fun _ _ _ _ _ => ?_⟩) T.f_all))) rfl) ?_
      · obtain ⟨lv, v, rfl, l1, l2⟩ := f2 i hi
        exact De.is (de_chain dr_le ⟨_, op_le⟩ (fun _ => dr_le) de_int (de_ix (dx_t (d := .int lv) rfl) (dv 9 rfl rfl) de_int) (dv 8 rfl rfl)) (by simp [l1, l2])
      refine dm_skip (Dt.is (dt_cmp dr_gt (de_callB dc_lenT T.f_len (da_cons (de_cal (ok_run_out T) hr (da_cons ((dv 7 rfl rfl)) (da_cons ((de_tup dd_nil)) da_nil)) ⟨rows, [], true, 2000, rfl, h1, h5, trivial, by decide, M.ends rows [] h1 h5 trivial, rfl⟩) da_nil)) (de_bin (dr_mul ?_) (de_bin (dr_mul ?_) (dv 8 rfl rfl) (dv 8 rfl rfl)) (de_bin dr_add (dv 8 rfl rfl) de_int))) ?_) ?_
      · exact .inr ⟨by omega, by omega⟩
      · exact .inr ⟨by omega, by omega⟩
      · rw [List.length_map, List.nil_append]
        have := M.short rows h1 h5
        refine decide_eq_false ?_
        intro z
        have z2 : ((rows.length * rows.length * (rows.length + 1) : Nat) : Int) < ((outs rows 2000 (begin0 rows.length)).length : Int) := by
          push_cast
          exact z
        omega
      exact dm_nil ⟨_, _, _, _, _, _, _, rfl⟩
    · obtain ⟨a, b, c, d, e, f, g, rfl⟩ := hI
      exact dm_ret de_bl rfl
  refine main H1 _ H1 _ E1 fun v d H' hd s' k' rv => ?_
  subst hd
  cases rv
  exact q H'
end
end OP

set_option Elab.async false
set_option linter.all false
set_option maxRecDepth 100000
set_option maxHeartbeats 4000000
/-! OpX: what the machine does, in plain Lean -/
namespace OP
open PySem PySem.Spec PyProof.Rows L2
/-! ### counting -/
def cnt (n : Nat) (p : Nat → Bool) : Nat := ((List.range n).filter p).length
theorem cnt_succ (n : Nat) (p : Nat → Bool) : cnt (n + 1) p = cnt n p + if p n = true then 1 else 0 := by
  unfold cnt
  rw [List.range_succ, List.filter_append, List.length_append]
  congr 1
  by_cases h : p n = true
  · simp [h]
  · simp [h]
theorem cnt_le {p q : Nat → Bool} : ∀ {n : Nat}, (∀ x, x < n → p x = true → q x = true) → cnt n p ≤ cnt n q
  | 0, _ => Nat.le_refl _
  | n + 1, h => by
    have ih := cnt_le (p := p) (q := q) (n := n) fun x hx => h x (by omega)
    rw [cnt_succ, cnt_succ]
    by_cases hp : p n = true
    · rw [if_pos hp, if_pos (h n (by omega) hp)]
      omega
    · rw [if_neg hp]
      omega
theorem cnt_lt {p q : Nat → Bool} : ∀ {n y : Nat}, (∀ x, x < n → p x = true → q x = true) → y < n → q y = true → p y = false → cnt n p < cnt n q
  | 0, _, _, hy, _, _ => absurd hy (Nat.not_lt_zero _)
  | n + 1, y, h, hy, hq, hp => by
    rw [cnt_succ, cnt_succ]
    by_cases hyn : y = n
    · subst hyn
      have := cnt_le (p := p) (q := q) (n := y) fun x hx => h x (by omega)
      rw [if_pos hq, hp]
      simp
      omega
    · have ih := cnt_lt (p := p) (q := q) (n := n) (y := y) (fun x hx => h x (by omega)) (by omega) hq hp
      by_cases hpn : p n = true
      · rw [if_pos hpn, if_pos (h n (by omega) hpn)]
        omega
      · rw [if_neg hpn]
        omega
theorem cnt_all {n : Nat} {p q : Nat → Bool} (h : ∀ x, x < n → p x = true → q x = true) (hc : cnt n q ≤ cnt n p) : ∀ x, x < n → q x = true → p x = true := fun x hx hq => by
  cases hp : p x with
  | true => rfl
  | false =>
    have := cnt_lt h hx hq hp
    omega
theorem cnt_n (n : Nat) (p : Nat → Bool) : cnt n p ≤ n := by
  unfold cnt
  have := List.length_filter_le p (List.range n)
  rwa [List.length_range] at this
theorem cnt_congr {n : Nat} {p q : Nat → Bool} (h : ∀ x, x < n → p x = q x) : cnt n p = cnt n q := by
  have h1 := cnt_le (p := p) (q := q) (n := n) fun x hx e => by rw [← h x hx]; exact e
  have h2 := cnt_le (p := q) (q := p) (n := n) fun x hx e => by rw [h x hx]; exact e
  omega
theorem filter_congr' {n : Nat} {p q : Nat → Bool} (h : ∀ x, x < n → p x = q x) : (List.range n).filter p = (List.range n).filter q := List.filter_congr fun x hx => h x (List.mem_range.mp hx)
/-! ### levels -/
def lvC (n : Nat) : Cell → Int
  | none => (n : Int) + 1
  | some c => c.1
def lv (n : Nat) (cells : List Cell) (i : Nat) : Int := lvC n (cells.getD i none)
def at_ (n : Nat) (cells : List Cell) (l : Int) : Nat → Bool := fun i => decide (lv n cells i ≤ l)
theorem getD_set {cells : List Cell} {h : Nat} {x : Cell} (hl : h < cells.length) (j : Nat) : (cells.set h x).getD j none = if j = h then x else cells.getD j none := by
  rw [List.getD_eq_getElem?_getD, List.getD_eq_getElem?_getD]
  by_cases e : j = h
  · subst e
    rw [List.getElem?_set_self hl, if_pos rfl]
    rfl
  · rw [List.getElem?_set_ne (Ne.symm e), if_neg e]
theorem isBelow_iff {n : Nat} {l : Int} {c : Cell} (hl : l ≤ n) : isBelow l c = true ↔ lvC n c ≤ l := by
  cases c with
  | none =>
    unfold isBelow lvC
    constructor
    · intro z; cases z
    · intro z
      have z : (n : Int) + 1 ≤ l := z
      omega
  | some c => exact decide_eq_true_iff
theorem below_len (l : Int) (xs : List Cell) : (below l xs).length = cnt xs.length fun j => isBelow l (xs.getD j none) := by
  unfold below cnt
  rw [List.length_map, zipIdx_range xs none, List.filter_map, List.length_map]
  rfl
theorem below_eq (l : Int) (xs : List Cell) : below l xs = ((List.range xs.length).filter fun j => isBelow l (xs.getD j none)).map fun (j : Nat) => (((j : Int), valC (xs.getD j none)) : Int × Int) := by
  unfold below
  rw [zipIdx_range xs none, List.filter_map, List.map_map]
  rfl
/-- all at a level or below -/
def itemOf (rows : List Int) (cells : List Cell) (l : Int) : Item := ((List.range rows.length).filter (at_ rows.length cells l)).map fun (j : Nat) => (((j : Int), rows.getD j 0) : Int × Int)
structure Gd (rows : List Int) (hs : List Nat) (s : St) : Prop where
  wf : Wf rows s
  cell : ∀ (i : Nat) (c : Int × Int), s.cells[i]? = some (some c) → c.2 = rows.getD i 0 ∧ i ∈ hs ∧ 1 ≤ c.1 ∧ c.1 ≤ (rows.length : Int)
  act : ∀ (i : Nat) (l : Int) (o : Option (List Cell)), s.states[i]? = some (some (l, o)) → l = lv rows.length s.cells i
  put : ∀ (i : Nat) (l : Int), s.states[i]? = some (some (l, none)) → 2 ≤ l
  scan : ∀ (i : Nat) (l : Int) (now : List Cell), s.states[i]? = some (some (l, some now)) → ∃ c, s.cells[i]? = some (some c)
  saw : ∀ (i : Nat) (l : Int) (now : List Cell) (j : Nat) (c : Cell), s.states[i]? = some (some (l, some now)) → now[j]? = some c → lv rows.length s.cells j ≤ lvC rows.length c ∧ ∀ a, c = some a → a.2 = rows.getD j 0
  cn : ∀ (l : Int), 0 ≤ l → (cnt rows.length (at_ rows.length s.cells l) : Int) ≤ l
  wit : ∀ (l : Int), 1 ≤ l → l ≤ rows.length → (cnt rows.length (at_ rows.length s.cells l) : Int) = l → ∃ i, i < rows.length ∧ lv rows.length s.cells i = l ∧ (s.states[i]? = some none ∨ ∃ now, s.states[i]? = some (some (l, some now)) ∧ ∀ (j : Nat) (c : Cell), now[j]? = some c → lv rows.length s.cells j ≤ l → lvC rows.length c ≤ l)
  over : ∀ (i : Nat), s.states[i]? = some none → s.told[i]? = some [itemOf rows s.cells (lv rows.length s.cells i)] ∧ (cnt rows.length (at_ rows.length s.cells (lv rows.length s.cells i)) : Int) = lv rows.length s.cells i ∧ lv rows.length s.cells i ≤ rows.length ∧ i ∈ hs
theorem lv_some {rows : List Int} {cells : List Cell} {n i : Nat} {c : Int × Int} (h : cells[i]? = some (some c)) : lv n cells i = c.1 := by
  unfold lv
  rw [List.getD_eq_getElem?_getD, h]
  rfl
theorem gd_begin {rows : List Int} (h1 : 1 ≤ rows.length) (h5 : rows.length ≤ 5) : Gd rows [] (begin0 rows.length) := by
  have hc : ∀ i, (begin0 rows.length).cells.getD i none = none := fun i => by
    unfold begin0
    rw [List.getD_eq_getElem?_getD, List.getElem?_replicate]
    split <;> rfl
  have hl : ∀ i, lv rows.length (begin0 rows.length).cells i = (rows.length : Int) + 1 := fun i => by
    unfold lv
    rw [hc]
    rfl
  have hs : ∀ i x, (begin0 rows.length).states[i]? = some x → x = some ((rows.length : Int) + 1, none) := fun i x e => by
    unfold begin0 at e
    rw [List.getElem?_replicate] at e
    split at e
    · exact (Option.some.inj e).symm
    · cases e
  have c0 : ∀ l : Int, l ≤ rows.length → cnt rows.length (at_ rows.length (begin0 rows.length).cells l) = 0 := fun l hll => by
    unfold cnt
    rw [List.filter_eq_nil_iff.mpr]
    · rfl
    · intro x _
      unfold at_
      rw [hl]
      simp
      omega
  refine ⟨wf_begin h5, fun i c e => ?_, fun i l o e => ?_, fun i l e => ?_, fun i l now e => ?_, fun i l now j c e => ?_, fun l h0 => ?_, fun l h1' h2 e => ?_, fun i e => ?_⟩
  · have := hc i
    rw [List.getD_eq_getElem?_getD, e] at this
    cases this
  · have := Option.some.inj (hs i _ e)
    rw [hl]
    exact (Prod.mk.inj this).1
  · have := Option.some.inj (hs i _ e)
    have := (Prod.mk.inj this).1
    omega
  · have := Option.some.inj (hs i _ e)
    cases (Prod.mk.inj this).2
  · have := Option.some.inj (hs i _ e)
    cases (Prod.mk.inj this).2
  · by_cases hll : l ≤ rows.length
    · rw [c0 l hll]
      exact h0
    · have := cnt_n rows.length (at_ rows.length (begin0 rows.length).cells l)
      omega
  · rw [c0 l h2] at e
    omega
  · cases hs i _ e
theorem lv_le {rows : List Int} {hs : List Nat} {s : St} (G : Gd rows hs s) (i : Nat) : 1 ≤ lv rows.length s.cells i ∧ lv rows.length s.cells i ≤ (rows.length : Int) + 1 := by
  cases h : s.cells[i]? with
  | none =>
    unfold lv
    rw [List.getD_eq_getElem?_getD, h]
    show 1 ≤ (rows.length : Int) + 1 ∧ (rows.length : Int) + 1 ≤ (rows.length : Int) + 1
    omega
  | some c =>
    cases c with
    | none =>
      unfold lv
      rw [List.getD_eq_getElem?_getD, h]
      show 1 ≤ (rows.length : Int) + 1 ∧ (rows.length : Int) + 1 ≤ (rows.length : Int) + 1
      omega
    | some c =>
      rw [lv_some (rows := rows) h]
      have := G.cell i c h
      omega
/-! ### a put -/
theorem gd_put {rows : List Int} {hs : List Nat} {s : St} (G : Gd rows hs s) {h : Nat} {l : Int} (hx : s.states[h]? = some (some (l, none))) (W' : Wf rows (moved rows s h)) : Gd rows (hs ++ [h]) (moved rows s h) := by
  have hn : h < rows.length := hand_lt G.wf hx
  have hcl : h < s.cells.length := by rw [G.wf.lc]; exact hn
  have hsl : h < s.states.length := by rw [G.wf.ls]; exact hn
  have el := G.act h l none hx
  have l2 := G.put h l hx
  have lle := (lv_le G h).2
  have e : moved rows s h = ⟨s.cells.set h (some (l - 1, rows.getD h 0)), s.states.set h (some (l - 1, some [])), s.told⟩ := by
    unfold moved movedBy
    rw [hx]
    rfl
  rw [e] at W' ⊢
  have lvh : lv rows.length (s.cells.set h (some (l - 1, rows.getD h 0))) h = l - 1 := by
    unfold lv
    rw [getD_set hcl, if_pos rfl]
    rfl
  have lvn : ∀ j, j ≠ h → lv rows.length (s.cells.set h (some (l - 1, rows.getD h 0))) j = lv rows.length s.cells j := fun j hj => by
    unfold lv
    rw [getD_set hcl, if_neg hj]
  have lvd : ∀ j, lv rows.length (s.cells.set h (some (l - 1, rows.getD h 0))) j ≤ lv rows.length s.cells j := fun j => by
    by_cases hj : j = h
    · rw [hj, lvh]; omega
    · rw [lvn j hj]; omega
  have stn : ∀ i x, i ≠ h → (s.states.set h (some (l - 1, some [])))[i]? = x → s.states[i]? = x := fun i x hi e => by
    rwa [List.getElem?_set_ne (Ne.symm hi)] at e
  have sth : ∀ x, (s.states.set h (some (l - 1, some [])))[h]? = some x → x = some (l - 1, some []) := fun x e => by
    rw [List.getElem?_set_self hsl] at e
    exact (Option.some.inj e).symm
  -- the same set where the level is not l - 1
  have same : ∀ m : Int, m ≠ l - 1 → ∀ j, at_ rows.length (s.cells.set h (some (l - 1, rows.getD h 0))) m j = at_ rows.length s.cells m j := fun m hm j => by
    unfold at_
    by_cases hj : j = h
    · rw [hj, lvh, ← el]
      exact decide_eq_decide.mpr (by omega)
    · rw [lvn j hj]
  have cm : ∀ m : Int, m ≠ l - 1 → cnt rows.length (at_ rows.length (s.cells.set h (some (l - 1, rows.getD h 0))) m) = cnt rows.length (at_ rows.length s.cells m) := fun m hm => cnt_congr fun x _ => same m hm x
  have cl1 : (cnt rows.length (at_ rows.length (s.cells.set h (some (l - 1, rows.getD h 0))) (l - 1)) : Int) ≤ l - 1 := by
    by_cases hln : l ≤ rows.length
    · have c0 := G.cn l (by omega)
      have sub : ∀ x, x < rows.length → at_ rows.length (s.cells.set h (some (l - 1, rows.getD h 0))) (l - 1) x = true → at_ rows.length s.cells l x = true := fun x _ hp => by
        unfold at_ at hp ⊢
        rw [decide_eq_true_eq] at hp ⊢
        by_cases hj : x = h
        · rw [hj, ← el]; omega
        · rw [lvn x hj] at hp; omega
      by_cases hc : (cnt rows.length (at_ rows.length s.cells l) : Int) = l
      · obtain ⟨i, hi, hil, hst⟩ := G.wit l (by omega) hln hc
        have hih : i ≠ h := fun z => by
          subst z
          rcases hst with z | ⟨now, z, _⟩
          · rw [hx] at z; cases z
          · rw [hx] at z; cases z
        have := cnt_lt sub hi (show at_ rows.length s.cells l i = true by unfold at_; rw [decide_eq_true_eq]; omega) (by unfold at_; rw [lvn i hih, hil]; exact decide_eq_false (by omega))
        omega
      · have := cnt_le sub
        omega
    · have := cnt_n rows.length (at_ rows.length (s.cells.set h (some (l - 1, rows.getD h 0))) (l - 1))
      omega
  refine ⟨W', fun i c ec => ?_, fun i l' o ei => ?_, fun i l' ei => ?_, fun i l' now ei => ?_, fun i l' now j c ei ej => ?_, fun m h0 => ?_, fun m m1 m2 em => ?_, fun i ei => ?_⟩
  · by_cases hi : i = h
    · subst hi
      have ec : (s.cells.set i (some (l - 1, rows.getD i 0)))[i]? = some (some c) := ec
      rw [List.getElem?_set_self hcl] at ec
      cases ec
      exact ⟨rfl, List.mem_append_right _ (List.mem_singleton.mpr rfl), by show 1 ≤ l - 1; omega, by show l - 1 ≤ _; omega⟩
    · have ec : (s.cells.set h (some (l - 1, rows.getD h 0)))[i]? = some (some c) := ec
      rw [List.getElem?_set_ne (Ne.symm hi)] at ec
      obtain ⟨a, b, d⟩ := G.cell i c ec
      exact ⟨a, List.mem_append_left _ b, d⟩
  · by_cases hi : i = h
    · subst hi
      have := Option.some.inj (sth _ ei)
      rw [(Prod.mk.inj this).1]
      exact lvh.symm
    · exact (G.act i l' o (stn i _ hi ei)).trans (lvn i hi).symm
  · by_cases hi : i = h
    · subst hi
      have := Option.some.inj (sth _ ei)
      cases (Prod.mk.inj this).2
    · exact G.put i l' (stn i _ hi ei)
  · by_cases hi : i = h
    · subst hi
      exact ⟨_, List.getElem?_set_self hcl⟩
    · obtain ⟨c, hc⟩ := G.scan i l' now (stn i _ hi ei)
      exact ⟨c, by show (s.cells.set h _)[i]? = _; rw [List.getElem?_set_ne (Ne.symm hi)]; exact hc⟩
  · by_cases hi : i = h
    · subst hi
      have := Option.some.inj (sth _ ei)
      have e2 := Option.some.inj (Prod.mk.inj this).2
      subst e2
      simp at ej
    · obtain ⟨a, b⟩ := G.saw i l' now j c (stn i _ hi ei) ej
      exact ⟨Int.le_trans (lvd j) a, b⟩
  · by_cases hm : m = l - 1
    · subst hm; exact cl1
    · show (cnt rows.length (at_ rows.length (s.cells.set h _) m) : Int) ≤ m
      rw [cm m hm]
      exact G.cn m h0
  · by_cases hm : m = l - 1
    · subst hm
      exact ⟨h, hn, lvh, .inr ⟨[], List.getElem?_set_self hsl, fun j c z => by simp at z⟩⟩
    · have em : (cnt rows.length (at_ rows.length (s.cells.set h (some (l - 1, rows.getD h 0))) m) : Int) = m := em
      rw [cm m hm] at em
      obtain ⟨i, hi, hil, hst⟩ := G.wit m m1 m2 em
      have hih : i ≠ h := fun z => by
        subst z
        rcases hst with z | ⟨now, z, _⟩
        · rw [hx] at z; cases z
        · rw [hx] at z; cases z
      have up : ∀ x, s.states[i]? = x → (s.states.set h (some (l - 1, some [])))[i]? = x := fun x e => by rwa [List.getElem?_set_ne (Ne.symm hih)]
      refine ⟨i, hi, (lvn i hih).trans hil, ?_⟩
      rcases hst with z | ⟨now, z, hw⟩
      · exact .inl (up _ z)
      · refine .inr ⟨now, up _ z, fun j c ej hj => hw j c ej ?_⟩
        by_cases hjh : j = h
        · subst hjh
          have hj : lv rows.length (s.cells.set j (some (l - 1, rows.getD j 0))) j ≤ m := hj
          rw [lvh] at hj
          omega
        · have hj : lv rows.length (s.cells.set h (some (l - 1, rows.getD h 0))) j ≤ m := hj
          rwa [lvn j hjh] at hj
  · have hi : i ≠ h := fun z => by
      subst z
      cases sth _ ei
    obtain ⟨a, b, c, d⟩ := G.over i (stn i _ hi ei)
    have hv : lv rows.length (s.cells.set h (some (l - 1, rows.getD h 0))) i = lv rows.length s.cells i := lvn i hi
    show s.told[i]? = some [itemOf rows (s.cells.set h _) (lv rows.length (s.cells.set h _) i)] ∧ (cnt rows.length (at_ rows.length (s.cells.set h _) (lv rows.length (s.cells.set h _) i)) : Int) = lv rows.length (s.cells.set h _) i ∧ lv rows.length (s.cells.set h _) i ≤ _ ∧ _
    rw [hv]
    have hm : lv rows.length s.cells i ≠ l - 1 := fun z => by
      rw [z] at b
      have := cnt_lt (n := rows.length) (p := at_ rows.length s.cells (l - 1)) (q := at_ rows.length (s.cells.set h (some (l - 1, rows.getD h 0))) (l - 1)) (y := h) (fun x _ hp => by
        unfold at_ at hp ⊢
        rw [decide_eq_true_eq] at hp ⊢
        exact Int.le_trans (lvd x) hp) hn (by unfold at_; rw [lvh]; simp) (by unfold at_; rw [← el]; exact decide_eq_false (by omega))
      omega
    refine ⟨?_, by rw [cm _ hm]; exact b, c, List.mem_append_left _ d⟩
    rw [a]
    unfold itemOf
    rw [filter_congr' fun x _ => same _ hm x]
end OP

set_option Elab.async false
set_option linter.all false
set_option maxRecDepth 100000
set_option maxHeartbeats 4000000
/-! OpY: a look; what is reached -/
namespace OP
open PySem PySem.Spec PyProof.Rows L2
theorem gd_look {rows : List Int} {hs : List Nat} {s : St} (G : Gd rows hs s) {h : Nat} {l : Int} {now : List Cell} (hx : s.states[h]? = some (some (l, some now))) (W' : Wf rows (moved rows s h)) : Gd rows (hs ++ [h]) (moved rows s h) := by
  have hn : h < rows.length := hand_lt G.wf hx
  have hsl : h < s.states.length := by rw [G.wf.ls]; exact hn
  have el := G.act h l _ hx
  obtain ⟨c0, hc0⟩ := G.scan h l now hx
  obtain ⟨_, _, c1, c2⟩ := G.cell h c0 hc0
  have lc0 := lv_some (rows := rows) (n := rows.length) hc0
  have l1 : 1 ≤ l := by omega
  have ln : l ≤ (rows.length : Int) := by omega
  have hnl := G.wf.now h l now hx
  have hcl := G.wf.lc
  generalize hk : now ++ [s.cells.getD now.length none] = now'
  have hlen : now'.length = now.length + 1 := by rw [← hk, List.length_append]; rfl
  -- what is looked at now
  have atk : ∀ (j : Nat) (c : Cell), now'[j]? = some c → now[j]? = some c ∨ (j = now.length ∧ c = s.cells.getD j none) := fun j c e => by
    rw [← hk] at e
    by_cases hj : j < now.length
    · rw [List.getElem?_append_left hj] at e
      exact .inl e
    · rw [List.getElem?_append_right (by omega)] at e
      have hj2 : j - now.length = 0 := by
        have := (List.getElem?_eq_some_iff.mp e).1
        simp at this
        omega
      rw [hj2] at e
      have e := Option.some.inj e
      have : j = now.length := by omega
      exact .inr ⟨this, by rw [this]; exact e.symm⟩
  have val : ∀ (j : Nat) (a : Int × Int), s.cells.getD j none = some a → a.2 = rows.getD j 0 := fun j a e => by
    rw [List.getD_eq_getElem?_getD] at e
    cases hq : s.cells[j]? with
    | none => rw [hq] at e; cases e
    | some c =>
      rw [hq] at e
      have e : c = some a := e
      subst e
      exact (G.cell j a hq).1
  have saw' : ∀ (j : Nat) (c : Cell), now'[j]? = some c → lv rows.length s.cells j ≤ lvC rows.length c ∧ ∀ a, c = some a → a.2 = rows.getD j 0 := fun j c e => by
    rcases atk j c e with z | ⟨rfl, rfl⟩
    · exact G.saw h l now j c hx z
    · exact ⟨Int.le_refl _, fun a ea => val _ a ea⟩
  have wit' : (∀ (j : Nat) (c : Cell), now[j]? = some c → lv rows.length s.cells j ≤ l → lvC rows.length c ≤ l) → ∀ (j : Nat) (c : Cell), now'[j]? = some c → lv rows.length s.cells j ≤ l → lvC rows.length c ≤ l := fun hw j c e hj => by
    rcases atk j c e with z | ⟨rfl, rfl⟩
    · exact hw j c z hj
    · exact hj
  have full : ¬ now'.length < s.cells.length → now'.length = rows.length := fun z => by omega
  have getj : now'.length = rows.length → ∀ j, j < rows.length → now'[j]? = some (now'.getD j none) := fun hf j hj => by
    rw [List.getD_eq_getElem?_getD, List.getElem?_eq_getElem (by omega)]
    rfl
  have bsub : now'.length = rows.length → ∀ j, j < rows.length → isBelow l (now'.getD j none) = true → at_ rows.length s.cells l j = true := fun hf j hj hb => by
    have h1 := (saw' j _ (getj hf j hj)).1
    have h2 := (isBelow_iff ln).mp hb
    unfold at_
    rw [decide_eq_true_eq]
    omega
  have blen : now'.length = rows.length → (below l now').length = cnt rows.length fun j => isBelow l (now'.getD j none) := fun hf => by rw [below_len, hf]
  -- h as a witness has seen all
  have bwit : now'.length = rows.length → (∀ (j : Nat) (c : Cell), now[j]? = some c → lv rows.length s.cells j ≤ l → lvC rows.length c ≤ l) → cnt rows.length (at_ rows.length s.cells l) ≤ (below l now').length := fun hf hw => by
    rw [blen hf]
    refine cnt_le fun j hj ha => ?_
    unfold at_ at ha
    rw [decide_eq_true_eq] at ha
    exact (isBelow_iff ln).mpr (wit' hw j _ (getj hf j hj) ha)
  have hm : moved rows s h = movedBy s h false (after rows h s.cells (l, some now)) := by
    unfold moved
    rw [hx]
    rfl
  have up : ∀ (st' : Sta) (i : Nat) (x : Option Sta), i ≠ h → s.states[i]? = x → (s.states.set h st')[i]? = x := fun st' i x hi e => by rwa [List.getElem?_set_ne (Ne.symm hi)]
  have dn : ∀ (st' : Sta) (i : Nat) (x : Option Sta), i ≠ h → (s.states.set h st')[i]? = x → s.states[i]? = x := fun st' i x hi e => by rwa [List.getElem?_set_ne (Ne.symm hi)] at e
  have at_h : ∀ (st' x : Sta), (s.states.set h st')[h]? = some x → x = st' := fun st' x e => by
    rw [List.getElem?_set_self hsl] at e
    exact (Option.some.inj e).symm
  have cell' : ∀ (i : Nat) (c : Int × Int), s.cells[i]? = some (some c) → c.2 = rows.getD i 0 ∧ i ∈ hs ++ [h] ∧ 1 ≤ c.1 ∧ c.1 ≤ (rows.length : Int) := fun i c ec => by
    obtain ⟨a, b, d⟩ := G.cell i c ec
    exact ⟨a, List.mem_append_left _ b, d⟩
  have hh : h ∈ hs ++ [h] := List.mem_append_right _ (List.mem_singleton.mpr rfl)
  by_cases hp : now'.length < s.cells.length
  · -- looks go on
    have e : moved rows s h = ⟨s.cells, s.states.set h (some (l, some now')), s.told⟩ := by
      rw [hm]
      simp only [after, hk, if_pos hp]
      rfl
    rw [e] at W' ⊢
    refine ⟨W', cell', fun i l' o ei => ?_, fun i l' ei => ?_, fun i l' nw ei => ?_, fun i l' nw j c ei ej => ?_, G.cn, fun m m1 m2 em => ?_, fun i ei => ?_⟩
    · by_cases hi : i = h
      · subst hi
        have := Option.some.inj (at_h _ _ ei)
        rw [(Prod.mk.inj this).1]
        exact el
      · exact G.act i l' o (dn _ i _ hi ei)
    · by_cases hi : i = h
      · subst hi
        have := Option.some.inj (at_h _ _ ei)
        cases (Prod.mk.inj this).2
      · exact G.put i l' (dn _ i _ hi ei)
    · by_cases hi : i = h
      · subst hi
        exact ⟨c0, hc0⟩
      · exact G.scan i l' nw (dn _ i _ hi ei)
    · by_cases hi : i = h
      · subst hi
        have := Option.some.inj (at_h _ _ ei)
        have e2 := Option.some.inj (Prod.mk.inj this).2
        subst e2
        exact saw' j c ej
      · exact G.saw i l' nw j c (dn _ i _ hi ei) ej
    · obtain ⟨i, hi, hil, hst⟩ := G.wit m m1 m2 em
      by_cases hih : i = h
      · subst hih
        have hml : m = l := by rw [← hil, el]
        subst hml
        rcases hst with z | ⟨nw, z, hw⟩
        · rw [hx] at z; cases z
        · rw [hx] at z
          have e2 := Option.some.inj (Prod.mk.inj (Option.some.inj (Option.some.inj z))).2
          subst e2
          exact ⟨i, hi, hil, .inr ⟨now', List.getElem?_set_self hsl, wit' hw⟩⟩
      · refine ⟨i, hi, hil, ?_⟩
        rcases hst with z | ⟨nw, z, hw⟩
        · exact .inl (up _ i _ hih z)
        · exact .inr ⟨nw, up _ i _ hih z, hw⟩
    · have hi : i ≠ h := fun z => by
        subst z
        cases at_h _ _ ei
      obtain ⟨a, b, c, d⟩ := G.over i (dn _ i _ hi ei)
      exact ⟨a, b, c, List.mem_append_left _ d⟩
  · have hf := full hp
    by_cases hb : l ≤ ((below l now').length : Int)
    · -- over
      have e : moved rows s h = ⟨s.cells, s.states.set h none, s.told.set h (s.told.getD h [] ++ [below l now'])⟩ := by
        rw [hm]
        simp only [after, hk, if_neg hp, if_pos hb]
        rfl
      rw [e] at W' ⊢
      have ht : s.told[h]? = some [] := G.wf.tol h _ hx
      have htl : h < s.told.length := (List.getElem?_eq_some_iff.mp ht).1
      have cl := G.cn l (by omega)
      rw [blen hf] at hb
      have eqv : ∀ j, j < rows.length → at_ rows.length s.cells l j = isBelow l (now'.getD j none) := fun j hj => by
        cases hq : isBelow l (now'.getD j none) with
        | true => exact bsub hf j hj hq
        | false =>
          cases hq2 : at_ rows.length s.cells l j with
          | false => rfl
          | true =>
            have := cnt_all (bsub hf) (by omega) j hj hq2
            rw [hq] at this
            cases this
      have item : below l now' = itemOf rows s.cells l := by
        rw [below_eq, hf]
        unfold itemOf
        rw [filter_congr' eqv]
        refine List.map_congr_left fun j hj => ?_
        obtain ⟨hjr, hjb⟩ := List.mem_filter.mp hj
        have hjr := List.mem_range.mp hjr
        have z := (saw' j _ (getj hf j hjr)).2
        cases hq : now'.getD j none with
        | none => rw [hq] at hjb; cases hjb
        | some a =>
          rw [hq] at z
          have := z a rfl
          show ((j : Int), a.2) = _
          rw [this]
      have cll : (cnt rows.length (at_ rows.length s.cells l) : Int) = l := by
        have := cnt_le (bsub hf)
        omega
      refine ⟨W', cell', fun i l' o ei => ?_, fun i l' ei => ?_, fun i l' nw ei => ?_, fun i l' nw j c ei ej => ?_, G.cn, fun m m1 m2 em => ?_, fun i ei => ?_⟩
      · by_cases hi : i = h
        · subst hi
          cases at_h _ _ ei
        · exact G.act i l' o (dn _ i _ hi ei)
      · by_cases hi : i = h
        · subst hi
          cases at_h _ _ ei
        · exact G.put i l' (dn _ i _ hi ei)
      · by_cases hi : i = h
        · subst hi
          exact ⟨c0, hc0⟩
        · exact G.scan i l' nw (dn _ i _ hi ei)
      · by_cases hi : i = h
        · subst hi
          cases at_h _ _ ei
        · exact G.saw i l' nw j c (dn _ i _ hi ei) ej
      · obtain ⟨i, hi, hil, hst⟩ := G.wit m m1 m2 em
        by_cases hih : i = h
        · subst hih
          exact ⟨i, hi, hil, .inl (List.getElem?_set_self hsl)⟩
        · refine ⟨i, hi, hil, ?_⟩
          rcases hst with z | ⟨nw, z, hw⟩
          · exact .inl (up _ i _ hih z)
          · exact .inr ⟨nw, up _ i _ hih z, hw⟩
      · by_cases hi : i = h
        · subst hi
          show (s.told.set i (s.told.getD i [] ++ [below l now']))[i]? = some [itemOf rows s.cells (lv rows.length s.cells i)] ∧ _
          rw [← el]
          refine ⟨?_, cll, ln, hh⟩
          rw [List.getElem?_set_self htl, List.getD_eq_getElem?_getD, ht, item]
          rfl
        · obtain ⟨a, b, c, d⟩ := G.over i (dn _ i _ hi ei)
          refine ⟨?_, b, c, List.mem_append_left _ d⟩
          show (s.told.set h _)[i]? = _
          rw [List.getElem?_set_ne (Ne.symm hi)]
          exact a
    · -- down
      have e : moved rows s h = ⟨s.cells, s.states.set h (some (l, none)), s.told⟩ := by
        rw [hm]
        simp only [after, hk, if_neg hp, if_neg hb]
        rfl
      rw [e] at W' ⊢
      -- h is no witness
      have now_ne : ∀ m, m = l → (cnt rows.length (at_ rows.length s.cells m) : Int) = m → ∃ i, i ≠ h ∧ i < rows.length ∧ lv rows.length s.cells i = m ∧ (s.states[i]? = some none ∨ ∃ now, s.states[i]? = some (some (m, some now)) ∧ ∀ (j : Nat) (c : Cell), now[j]? = some c → lv rows.length s.cells j ≤ m → lvC rows.length c ≤ m) := fun m hml em => by
        subst hml
        obtain ⟨i, hi, hil, hst⟩ := G.wit m l1 ln em
        refine ⟨i, fun z => ?_, hi, hil, hst⟩
        subst z
        rcases hst with z | ⟨nw, z, hw⟩
        · rw [hx] at z; cases z
        · rw [hx] at z
          have e2 := Option.some.inj (Prod.mk.inj (Option.some.inj (Option.some.inj z))).2
          subst e2
          have := bwit hf hw
          omega
      have l2 : 2 ≤ l := by
        by_cases hl1 : l = 1
        · have ch := G.cn l (by omega)
          have h0 : cnt rows.length (fun _ => false) < cnt rows.length (at_ rows.length s.cells l) := cnt_lt (y := h) (fun x _ z => by cases z) hn (by unfold at_; rw [← el]; simp) rfl
          obtain ⟨i, hih, hi, hil, _⟩ := now_ne l rfl (by omega)
          have h1 : cnt rows.length (fun _ => false) < cnt rows.length (fun x => decide (x = h)) := cnt_lt (y := h) (fun x _ z => by cases z) hn (by simp) rfl
          have h2 : cnt rows.length (fun x => decide (x = h)) < cnt rows.length (at_ rows.length s.cells l) := cnt_lt (y := i) (fun x _ z => by
            have z := of_decide_eq_true z
            subst z
            unfold at_
            rw [← el]
            simp) hi (by unfold at_; rw [hil]; simp) (by simp [hih])
          omega
        · omega
      refine ⟨W', cell', fun i l' o ei => ?_, fun i l' ei => ?_, fun i l' nw ei => ?_, fun i l' nw j c ei ej => ?_, G.cn, fun m m1 m2 em => ?_, fun i ei => ?_⟩
      · by_cases hi : i = h
        · subst hi
          have := Option.some.inj (at_h _ _ ei)
          rw [(Prod.mk.inj this).1]
          exact el
        · exact G.act i l' o (dn _ i _ hi ei)
      · by_cases hi : i = h
        · subst hi
          have := Option.some.inj (at_h _ _ ei)
          rw [(Prod.mk.inj this).1]
          exact l2
        · exact G.put i l' (dn _ i _ hi ei)
      · by_cases hi : i = h
        · subst hi
          exact ⟨c0, hc0⟩
        · exact G.scan i l' nw (dn _ i _ hi ei)
      · by_cases hi : i = h
        · subst hi
          have := Option.some.inj (at_h _ _ ei)
          cases (Prod.mk.inj this).2
        · exact G.saw i l' nw j c (dn _ i _ hi ei) ej
      · have key : ∃ i, i ≠ h ∧ i < rows.length ∧ lv rows.length s.cells i = m ∧ (s.states[i]? = some none ∨ ∃ now, s.states[i]? = some (some (m, some now)) ∧ ∀ (j : Nat) (c : Cell), now[j]? = some c → lv rows.length s.cells j ≤ m → lvC rows.length c ≤ m) := by
          by_cases hml : m = l
          · exact now_ne m hml em
          · obtain ⟨i, hi, hil, hst⟩ := G.wit m m1 m2 em
            exact ⟨i, fun z => hml (by rw [← hil, z, el]), hi, hil, hst⟩
        obtain ⟨i, hih, hi, hil, hst⟩ := key
        refine ⟨i, hi, hil, ?_⟩
        rcases hst with z | ⟨nw, z, hw⟩
        · exact .inl (up _ i _ hih z)
        · exact .inr ⟨nw, up _ i _ hih z, hw⟩
      · have hi : i ≠ h := fun z => by
          subst z
          cases at_h _ _ ei
        obtain ⟨a, b, c, d⟩ := G.over i (dn _ i _ hi ei)
        exact ⟨a, b, c, List.mem_append_left _ d⟩
theorem gd_move {rows : List Int} {hs : List Nat} {s : St} (G : Gd rows hs s) {h : Nat} {x} (hx : s.states[h]? = some (some x)) : Gd rows (hs ++ [h]) (moved rows s h) := by
  have W' := wf_moved (rows := rows) G.wf h
  obtain ⟨l, o⟩ := x
  cases o with
  | none => exact gd_put G hx W'
  | some now => exact gd_look G hx W'
theorem gd_runs {rows : List Int} : ∀ {gs hs : List Nat} {s : St}, Gd rows hs s → Okw rows s gs → Gd rows (hs ++ gs) (runs rows s gs)
  | [], hs, s, G, _ => by rw [List.append_nil]; exact G
  | h :: r, hs, s, G, o => by
    obtain ⟨⟨x, hx⟩, o2⟩ := o
    have z := gd_runs (gs := r) (gd_move G hx) o2
    rw [List.append_assoc] at z
    exact z
theorem gd_reach {rows : List Int} {hs : List Nat} (h1 : 1 ≤ rows.length) (h5 : rows.length ≤ 5) (ho : Okw rows (begin0 rows.length) hs) : Gd rows hs (runs rows (begin0 rows.length) hs) := by
  have z := gd_runs (gd_begin h1 h5) ho
  rwa [List.nil_append] at z
end OP

set_option Elab.async false
set_option linter.all false
set_option maxRecDepth 100000
set_option maxHeartbeats 4000000
/-! OpZ: what the law asks of the machine -/
namespace OP
open PySem PySem.Spec PyProof.Rows L2
theorem hd_item {rows : List Int} {cells : List Cell} {l x : Int} : x ∈ hd (itemOf rows cells l) ↔ ∃ j : Nat, j < rows.length ∧ at_ rows.length cells l j = true ∧ x = (j : Int) := by
  unfold hd itemOf
  rw [List.map_map]
  constructor
  · intro h
    obtain ⟨j, hj, rfl⟩ := List.mem_map.mp h
    obtain ⟨a, b⟩ := List.mem_filter.mp hj
    exact ⟨j, List.mem_range.mp a, b, rfl⟩
  · rintro ⟨j, a, b, rfl⟩
    exact List.mem_map.mpr ⟨j, List.mem_filter.mpr ⟨List.mem_range.mpr a, b⟩, rfl⟩
theorem lot_item {rows : List Int} {cells : List Cell} {l m : Int} (h : l ≤ m) : lotB (hd (itemOf rows cells l)) (hd (itemOf rows cells m)) = true := by
  unfold lotB
  rw [List.all_eq_true]
  intro x hx
  obtain ⟨j, a, b, rfl⟩ := hd_item.mp hx
  refine decide_eq_true (hd_item.mpr ⟨j, a, ?_, rfl⟩)
  unfold at_ at b ⊢
  rw [decide_eq_true_eq] at b ⊢
  omega
theorem told_at {rows : List Int} {hs : List Nat} {s : St} (G : Gd rows hs s) {k : Nat} {its : List Item} (e : s.told[k]? = some its) : its = [] ∨ (its = [itemOf rows s.cells (lv rows.length s.cells k)] ∧ s.states[k]? = some none) := by
  have hk : k < s.states.length := by
    have := (List.getElem?_eq_some_iff.mp e).1
    rw [G.wf.ls]
    rwa [G.wf.lt] at this
  cases hq : s.states[k] with
  | none =>
    have hq2 : s.states[k]? = some none := by rw [List.getElem?_eq_getElem hk, hq]
    have z := (G.over k hq2).1
    rw [e] at z
    exact .inr ⟨Option.some.inj z, hq2⟩
  | some x =>
    have hq2 : s.states[k]? = some (some x) := by rw [List.getElem?_eq_getElem hk, hq]
    have z := G.wf.tol k x hq2
    rw [e] at z
    exact .inl (Option.some.inj z)
theorem cell_in {rows : List Int} {hs : List Nat} {s : St} (G : Gd rows hs s) {j : Nat} (h : lv rows.length s.cells j ≤ rows.length) : ∃ c, s.cells[j]? = some (some c) := by
  unfold lv at h
  rw [List.getD_eq_getElem?_getD] at h
  cases hq : s.cells[j]? with
  | none =>
    rw [hq] at h
    have h : (rows.length : Int) + 1 ≤ rows.length := h
    omega
  | some c =>
    rw [hq] at h
    cases c with
    | none =>
      have h : (rows.length : Int) + 1 ≤ rows.length := h
      omega
    | some c => exact ⟨c, rfl⟩
theorem came_mem {hs : List Nat} {j : Nat} (h : j ∈ hs) (h5 : j < 5) : (j : Int) ∈ cameOf hs := by
  unfold cameOf
  exact List.mem_map.mpr ⟨j, List.mem_filter.mpr ⟨List.mem_range.mpr h5, decide_eq_true h⟩, rfl⟩
theorem goodI_item {rows : List Int} (h5 : rows.length ≤ 5) (hv : ∀ r ∈ rows, 0 ≤ r ∧ r ≤ 999) (cells : List Cell) (l : Int) : GoodI rows.length (itemOf rows cells l) where
  ln := by
    unfold itemOf
    rw [List.length_map]
    have := List.length_filter_le (at_ rows.length cells l) (List.range rows.length)
    rw [List.length_range] at this
    omega
  lt := fun p hp => by
    unfold itemOf at hp
    obtain ⟨j, hj, rfl⟩ := List.mem_map.mp hp
    have hj := List.mem_range.mp (List.mem_filter.mp hj).1
    have e : rows.getD j 0 = rows[j] := by rw [List.getD_eq_getElem?_getD, List.getElem?_eq_getElem hj]; rfl
    have := hv rows[j] (List.getElem_mem hj)
    refine ⟨⟨by show 0 ≤ (j : Int); omega, by show (j : Int) < rows.length; omega⟩, ?_⟩
    show 0 ≤ rows.getD j 0 ∧ rows.getD j 0 ≤ 999
    rw [e]
    exact this
  asc := by
    unfold hd itemOf
    rw [List.map_map, List.pairwise_map]
    refine List.Pairwise.imp (fun {a b} h => ?_) (List.Pairwise.filter _ List.pairwise_lt_range)
    show (a : Int) < (b : Int)
    omega
theorem good_of {rows : List Int} {hs : List Nat} {s : St} (G : Gd rows hs s) (h5 : rows.length ≤ 5) (hv : ∀ r ∈ rows, 0 ≤ r ∧ r ≤ 999) (hlt : ∀ i ∈ hs, i < rows.length) : GoodT rows (cameOf hs) s.told := by
  have mem : ∀ its ∈ s.told, ∃ k, s.told[k]? = some its := fun its h => List.getElem?_of_mem h
  have fl : ∀ it ∈ s.told.flatten, ∃ l, it = itemOf rows s.cells l := fun it h => by
    obtain ⟨its, h1, h2⟩ := List.mem_flatten.mp h
    obtain ⟨k, hk⟩ := mem its h1
    rcases told_at G hk with rfl | ⟨rfl, _⟩
    · cases h2
    · exact ⟨_, List.mem_singleton.mp h2⟩
  refine ⟨G.wf.lt, h5, by have := cameOf_len hs; omega, fun i hi => ?_, cameOf_asc hs, fun its h => ?_, fun its h it hit => ?_, fun its h it hit p hp => ?_, fun k its hk it hit => ?_, fun a ha b hb => ?_, fun it hit k hk its hi other ho => ?_, fun k its hk hne => ?_⟩
  · unfold cameOf at hi
    obtain ⟨j, hj, rfl⟩ := List.mem_map.mp hi
    have := hlt j (of_decide_eq_true (List.mem_filter.mp hj).2)
    omega
  · obtain ⟨k, hk⟩ := mem its h
    rcases told_at G hk with rfl | ⟨rfl, _⟩
    · exact Nat.zero_le _
    · exact Nat.le_refl _
  · obtain ⟨l, rfl⟩ := fl it (List.mem_flatten.mpr ⟨its, h, hit⟩)
    exact goodI_item h5 hv _ _
  · obtain ⟨k, hk⟩ := mem its h
    rcases told_at G hk with rfl | ⟨rfl, hst⟩
    · cases hit
    · obtain rfl := List.mem_singleton.mp hit
      obtain ⟨_, _, hl, _⟩ := G.over k hst
      unfold itemOf at hp
      obtain ⟨j, hj, rfl⟩ := List.mem_map.mp hp
      obtain ⟨hj, ha⟩ := List.mem_filter.mp hj
      have hj := List.mem_range.mp hj
      unfold at_ at ha
      rw [decide_eq_true_eq] at ha
      obtain ⟨c, hc⟩ := cell_in G (j := j) (by omega)
      obtain ⟨_, hin, _⟩ := G.cell j c hc
      refine ⟨came_mem hin (by omega), ?_⟩
      show rows[((j : Int)).toNat]? = some (rows.getD j 0)
      have e : ((j : Int)).toNat = j := by omega
      rw [e, List.getD_eq_getElem?_getD, List.getElem?_eq_getElem hj]
      rfl
  · rcases told_at G hk with rfl | ⟨rfl, hst⟩
    · cases hit
    · obtain rfl := List.mem_singleton.mp hit
      have hkn : k < rows.length := by
        have := (List.getElem?_eq_some_iff.mp hk).1
        rwa [G.wf.lt] at this
      exact hd_item.mpr ⟨k, hkn, by unfold at_; simp, rfl⟩
  · obtain ⟨l, rfl⟩ := fl a ha
    obtain ⟨m, rfl⟩ := fl b hb
    by_cases hlm : l ≤ m
    · exact .inl (lot_item hlm)
    · exact .inr (lot_item (by omega))
  · obtain ⟨l, rfl⟩ := fl it hit
    obtain ⟨j, hj, ha, e⟩ := hd_item.mp hk
    have e : k = j := by omega
    subst e
    rcases told_at G hi with rfl | ⟨rfl, _⟩
    · cases ho
    · obtain rfl := List.mem_singleton.mp ho
      unfold at_ at ha
      rw [decide_eq_true_eq] at ha
      exact lot_item ha
  · rcases told_at G hk with rfl | ⟨rfl, hst⟩
    · exact absurd rfl hne
    · obtain ⟨_, _, _, hin⟩ := G.over k hst
      have := hlt k hin
      exact came_mem hin (by omega)
/-! ### it ends -/
def pot (n : Nat) : Sta → Nat
  | none => 0
  | some (l, none) => (l - 1).toNat * (n + 1)
  | some (l, some now) => (l - 1).toNat * (n + 1) + (n - now.length)
def mu (n : Nat) (s : St) : Nat := (s.states.map (pot n)).sum
theorem sum_set {n : Nat} : ∀ {xs : List Sta} {h : Nat} {x y : Sta}, xs[h]? = some x → ((xs.set h y).map (pot n)).sum + pot n x = (xs.map (pot n)).sum + pot n y
  | [], _, _, _, e => by simp at e
  | a :: r, 0, x, y, e => by
    cases e
    show (pot n y + (r.map (pot n)).sum) + pot n a = (pot n a + (r.map (pot n)).sum) + pot n y
    omega
  | a :: r, h + 1, x, y, e => by
    have ih := sum_set (n := n) (xs := r) (h := h) (x := x) (y := y) e
    show (pot n a + ((r.set h y).map (pot n)).sum) + pot n x = (pot n a + (r.map (pot n)).sum) + pot n y
    omega
theorem mu_move {rows : List Int} {hs : List Nat} {s : St} (G : Gd rows hs s) {h : Nat} {x} (hx : s.states[h]? = some (some x)) : mu rows.length (moved rows s h) + 1 ≤ mu rows.length s := by
  have em : (moved rows s h).states = s.states.set h (after rows h s.cells x).2.1 := by
    unfold moved movedBy
    rw [hx]
  unfold mu
  rw [em]
  have e := sum_set (n := rows.length) (y := (after rows h s.cells x).2.1) hx
  have key : pot rows.length (after rows h s.cells x).2.1 + 1 ≤ pot rows.length (some x) := by
    obtain ⟨l, o⟩ := x
    cases o with
    | none =>
      have l2 := G.put h l hx
      show ((l - 1) - 1).toNat * (rows.length + 1) + (rows.length - 0) + 1 ≤ (l - 1).toNat * (rows.length + 1)
      have e1 : (l - 1).toNat = ((l - 1) - 1).toNat + 1 := by omega
      rw [e1, Nat.succ_mul]
      omega
    | some now =>
      have hl := G.wf.now h l now hx
      simp only [after]
      split
      · rename_i hlt
        rw [List.length_append, List.length_singleton] at hlt
        show (l - 1).toNat * (rows.length + 1) + (rows.length - (now ++ [s.cells.getD now.length none]).length) + 1 ≤ (l - 1).toNat * (rows.length + 1) + (rows.length - now.length)
        rw [List.length_append, List.length_singleton]
        omega
      · split
        · show 0 + 1 ≤ (l - 1).toNat * (rows.length + 1) + (rows.length - now.length)
          omega
        · show (l - 1).toNat * (rows.length + 1) + 1 ≤ (l - 1).toNat * (rows.length + 1) + (rows.length - now.length)
          omega
  omega
theorem mu_runs {rows : List Int} : ∀ {gs hs : List Nat} {s : St}, Gd rows hs s → Okw rows s gs → mu rows.length (runs rows s gs) ≤ mu rows.length s
  | [], _, _, _, _ => Nat.le_refl _
  | h :: r, hs, s, G, o => by
    obtain ⟨⟨x, hx⟩, o2⟩ := o
    have z := mu_runs (gs := r) (gd_move G hx) o2
    have z2 := mu_move G hx
    show mu rows.length (runs rows (moved rows s h) r) ≤ _
    omega
theorem outs_end {rows : List Int} : ∀ (m : Nat) {hs : List Nat} {s : St}, Gd rows hs s → mu rows.length s ≤ m → left (runs rows s (outs rows m s)) = [] ∧ (outs rows m s).length ≤ mu rows.length s
  | m, hs, s, G, hm => by
    cases e : left s with
    | nil =>
      rw [outs_nil e]
      exact ⟨e, Nat.zero_le _⟩
    | cons h r =>
      obtain ⟨x, hx⟩ := left_mem (s := s) (h := h) (by rw [e]; exact List.mem_cons_self)
      have z := mu_move G hx
      cases m with
      | zero => omega
      | succ m =>
        rw [outs_cons e]
        obtain ⟨a, b⟩ := outs_end m (gd_move G hx) (by omega)
        refine ⟨a, ?_⟩
        rw [List.length_cons]
        omega
theorem sum_rep {n : Nat} (x : Sta) : ∀ k, ((List.replicate k x).map (pot n)).sum = k * pot n x
  | 0 => by simp
  | k + 1 => by
    rw [List.replicate_succ, List.map_cons, List.sum_cons, sum_rep x k, Nat.succ_mul]
    omega
theorem mu_begin (n : Nat) : mu n (begin0 n) = n * (n * (n + 1)) := by
  unfold mu begin0
  rw [sum_rep]
  show n * ((((n : Int) + 1) - 1).toNat * (n + 1)) = _
  have e : (((n : Int) + 1) - 1).toNat = n := by omega
  rw [e]
theorem mu_small {n : Nat} (h5 : n ≤ 5) : n * (n * (n + 1)) ≤ 2000 := by
  have h1 : n * (n + 1) ≤ 5 * 6 := Nat.mul_le_mul h5 (by omega)
  have h2 : n * (n * (n + 1)) ≤ 5 * (5 * 6) := Nat.mul_le_mul h5 h1
  omega
theorem mth : Mth where
  good := fun rows hs h1 h5 hv ho => good_of (gd_reach h1 h5 ho) h5 hv (okw_lt (wf_begin h5) ho)
  ends := fun rows hs h1 h5 ho => by
    have z := mu_runs (gd_begin h1 h5) ho
    rw [mu_begin] at z
    have := mu_small h5
    exact (outs_end 2000 (gd_reach h1 h5 ho) (by omega)).1
  fin := fun rows hs h1 h5 ho hl => by
    have G := gd_reach h1 h5 ho
    have st : ∀ k, k < rows.length → (runs rows (begin0 rows.length) hs).states[k]? = some none := fun k hk => by
      have hk2 : k < (runs rows (begin0 rows.length) hs).states.length := by rw [G.wf.ls]; exact hk
      cases hq : (runs rows (begin0 rows.length) hs).states[k] with
      | none => rw [List.getElem?_eq_getElem hk2, hq]
      | some x =>
        have z := mem_left (s := runs rows (begin0 rows.length) hs) (h := k) (x := x) (by rw [List.getElem?_eq_getElem hk2, hq])
        rw [hl] at z
        cases z
    refine ⟨fun its hi => ?_, fun c hc => ?_⟩
    · obtain ⟨k, hk⟩ := List.getElem?_of_mem hi
      have hkn : k < rows.length := by
        have := (List.getElem?_eq_some_iff.mp hk).1
        rwa [G.wf.lt] at this
      have z := (G.over k (st k hkn)).1
      rw [hk] at z
      rw [Option.some.inj z]
      rfl
    · obtain ⟨k, hk⟩ := List.getElem?_of_mem hc
      have hkn : k < rows.length := by
        have := (List.getElem?_eq_some_iff.mp hk).1
        rwa [G.wf.lc] at this
      obtain ⟨_, _, hle, _⟩ := G.over k (st k hkn)
      obtain ⟨c', hc'⟩ := cell_in G hle
      rw [hk] at hc'
      obtain rfl := Option.some.inj hc'
      obtain ⟨_, _, a, b⟩ := G.cell k c' hk
      exact ⟨c'.1, c'.2, rfl, a, b⟩
  short := fun rows h1 h5 => by
    have z := (outs_end 2000 (gd_begin h1 h5) (by rw [mu_begin]; exact mu_small h5)).2
    rw [mu_begin] at z
    have e : rows.length * rows.length * (rows.length + 1) = rows.length * (rows.length * (rows.length + 1)) := Nat.mul_assoc _ _ _
    omega
end OP

set_option Elab.async false
set_option linter.all false
set_option maxRecDepth 100000
set_option maxHeartbeats 0
/-! HeadF: the facts -/
namespace OPH
open PySem PySem.Spec PyProof.Rows L2
theorem fun_of {K : PySem.W.Frag} {x qual : Str} {st : Stmt} {f : Addr} {fd : FuncData} (F : FunD K x qual (defArgs st) (defBody st) (defScope st) [] [] f fd) : Fun K x qual st f fd := by
  obtain ⟨oc, od, dV, kV, doc, pm, an, cdv, ct, osl, e, lk, hcd, hd, _⟩ := F.ex
  rcases hd with ⟨_, rfl⟩ | ⟨z, _⟩
  · exact ⟨⟨oc, od, kV, doc, pm, an, cdv, ct, osl, e, lk, hcd⟩, F.kp⟩
  · exact absurd rfl z
theorem tx_of {K : PySem.W.Frag} {h : Heap} {mg : Str → Option Value} (X : K.In h) (G : h.Ns mainGlobals mg) (c : He.SaysD faT fnT K) (m : exB K = true) : OP.Tx K mg (He.ga K "Play") where
  a_is_integer := by
    obtain ⟨fd, F⟩ := c.def_ 1 (d := d_is_integer) rfl
    exact ⟨_, fd, He.glo_ok X G (c.fact 0 (f := .glo "is_integer") rfl), fun_of (st := OP.topS 9) F⟩
  a_is_within := by
    obtain ⟨fd, F⟩ := c.def_ 2 (d := d_is_within) rfl
    exact ⟨_, fd, He.glo_ok X G (c.fact 1 (f := .glo "is_within") rfl), fun_of (st := OP.topS 10) F⟩
  a_is_below := by
    obtain ⟨fd, F⟩ := c.def_ 3 (d := d_is_below) rfl
    exact ⟨_, fd, He.glo_ok X G (c.fact 2 (f := .glo "is_below") rfl), fun_of (st := OP.topS 11) F⟩
  a_is_sized := by
    obtain ⟨fd, F⟩ := c.def_ 4 (d := d_is_sized) rfl
    exact ⟨_, fd, He.glo_ok X G (c.fact 3 (f := .glo "is_sized") rfl), fun_of (st := OP.topS 12) F⟩
  a_is_pair := by
    obtain ⟨fd, F⟩ := c.def_ 5 (d := d_is_pair) rfl
    exact ⟨_, fd, He.glo_ok X G (c.fact 4 (f := .glo "is_pair") rfl), fun_of (st := OP.topS 13) F⟩
  a_is_listed := by
    obtain ⟨fd, F⟩ := c.def_ 6 (d := d_is_listed) rfl
    exact ⟨_, fd, He.glo_ok X G (c.fact 5 (f := .glo "is_listed") rfl), fun_of (st := OP.topS 14) F⟩
  a_replaced := by
    obtain ⟨fd, F⟩ := c.def_ 7 (d := d_replaced) rfl
    exact ⟨_, fd, He.glo_ok X G (c.fact 6 (f := .glo "replaced") rfl), fun_of (st := OP.topS 15) F⟩
  a_is_value := by
    obtain ⟨fd, F⟩ := c.def_ 8 (d := d_is_value) rfl
    exact ⟨_, fd, He.glo_ok X G (c.fact 7 (f := .glo "is_value") rfl), fun_of (st := OP.topS 34) F⟩
  a_is_row_of := by
    obtain ⟨fd, F⟩ := c.def_ 9 (d := d_is_row_of) rfl
    exact ⟨_, fd, He.glo_ok X G (c.fact 8 (f := .glo "is_row_of") rfl), fun_of (st := OP.topS 37) F⟩
  a_are_inputs := by
    obtain ⟨fd, F⟩ := c.def_ 10 (d := d_are_inputs) rfl
    exact ⟨_, fd, He.glo_ok X G (c.fact 9 (f := .glo "are_inputs") rfl), fun_of (st := OP.topS 38) F⟩
  a_is_hand := by
    obtain ⟨fd, F⟩ := c.def_ 11 (d := d_is_hand) rfl
    exact ⟨_, fd, He.glo_ok X G (c.fact 10 (f := .glo "is_hand") rfl), fun_of (st := OP.topS 40) F⟩
  a_check_hand := by
    obtain ⟨fd, F⟩ := c.def_ 12 (d := d_check_hand) rfl
    exact ⟨_, fd, He.glo_ok X G (c.fact 11 (f := .glo "check_hand") rfl), fun_of (st := OP.topS 41) F⟩
  a_level_cell := by
    obtain ⟨fd, F⟩ := c.def_ 13 (d := d_level_cell) rfl
    exact ⟨_, fd, He.glo_ok X G (c.fact 12 (f := .glo "level_cell") rfl), fun_of (st := OP.topS 44) F⟩
  a_level_state := by
    obtain ⟨fd, F⟩ := c.def_ 14 (d := d_level_state) rfl
    exact ⟨_, fd, He.glo_ok X G (c.fact 13 (f := .glo "level_state") rfl), fun_of (st := OP.topS 45) F⟩
  a_level_next := by
    obtain ⟨fd, F⟩ := c.def_ 15 (d := d_level_next) rfl
    exact ⟨_, fd, He.glo_ok X G (c.fact 14 (f := .glo "level_next") rfl), fun_of (st := OP.topS 46) F⟩
  a_level_after := by
    obtain ⟨fd, F⟩ := c.def_ 16 (d := d_level_after) rfl
    exact ⟨_, fd, He.glo_ok X G (c.fact 15 (f := .glo "level_after") rfl), fun_of (st := OP.topS 47) F⟩
  a_cell_of := by
    obtain ⟨fd, F⟩ := c.def_ 17 (d := d_cell_of) rfl
    exact ⟨_, fd, He.glo_ok X G (c.fact 16 (f := .glo "cell_of") rfl), fun_of (st := OP.topS 72) F⟩
  a_state_of := by
    obtain ⟨fd, F⟩ := c.def_ 18 (d := d_state_of) rfl
    exact ⟨_, fd, He.glo_ok X G (c.fact 17 (f := .glo "state_of") rfl), fun_of (st := OP.topS 73) F⟩
  a_next_of := by
    obtain ⟨fd, F⟩ := c.def_ 19 (d := d_next_of) rfl
    exact ⟨_, fd, He.glo_ok X G (c.fact 18 (f := .glo "next_of") rfl), fun_of (st := OP.topS 74) F⟩
  a_after_of := by
    obtain ⟨fd, F⟩ := c.def_ 20 (d := d_after_of) rfl
    exact ⟨_, fd, He.glo_ok X G (c.fact 19 (f := .glo "after_of") rfl), fun_of (st := OP.topS 75) F⟩
  a_begun := by
    obtain ⟨fd, F⟩ := c.def_ 21 (d := d_begun) rfl
    exact ⟨_, fd, He.glo_ok X G (c.fact 20 (f := .glo "begun") rfl), fun_of (st := OP.topS 76) F⟩
  a_first_standing := by
    obtain ⟨fd, F⟩ := c.def_ 22 (d := d_first_standing) rfl
    exact ⟨_, fd, He.glo_ok X G (c.fact 21 (f := .glo "first_standing") rfl), fun_of (st := OP.topS 77) F⟩
  a_movers := by
    obtain ⟨fd, F⟩ := c.def_ 23 (d := d_movers) rfl
    exact ⟨_, fd, He.glo_ok X G (c.fact 22 (f := .glo "movers") rfl), fun_of (st := OP.topS 78) F⟩
  a_can_step := by
    obtain ⟨fd, F⟩ := c.def_ 24 (d := d_can_step) rfl
    exact ⟨_, fd, He.glo_ok X G (c.fact 23 (f := .glo "can_step") rfl), fun_of (st := OP.topS 79) F⟩
  a_after_step := by
    obtain ⟨fd, F⟩ := c.def_ 25 (d := d_after_step) rfl
    exact ⟨_, fd, He.glo_ok X G (c.fact 24 (f := .glo "after_step") rfl), fun_of (st := OP.topS 80) F⟩
  a_check_step := by
    obtain ⟨fd, F⟩ := c.def_ 26 (d := d_check_step) rfl
    exact ⟨_, fd, He.glo_ok X G (c.fact 25 (f := .glo "check_step") rfl), fun_of (st := OP.topS 81) F⟩
  a_step := by
    obtain ⟨fd, F⟩ := c.def_ 27 (d := d_step) rfl
    exact ⟨_, fd, He.glo_ok X G (c.fact 26 (f := .glo "step") rfl), fun_of (st := OP.topS 82) F⟩
  a_next_step := by
    obtain ⟨fd, F⟩ := c.def_ 28 (d := d_next_step) rfl
    exact ⟨_, fd, He.glo_ok X G (c.fact 27 (f := .glo "next_step") rfl), fun_of (st := OP.topS 83) F⟩
  a_standings_of := by
    obtain ⟨fd, F⟩ := c.def_ 29 (d := d_standings_of) rfl
    exact ⟨_, fd, He.glo_ok X G (c.fact 28 (f := .glo "standings_of") rfl), fun_of (st := OP.topS 84) F⟩
  a_run := by
    obtain ⟨fd, F⟩ := c.def_ 30 (d := d_run) rfl
    exact ⟨_, fd, He.glo_ok X G (c.fact 29 (f := .glo "run") rfl), fun_of (st := OP.topS 85) F⟩
  a_run_out := by
    obtain ⟨fd, F⟩ := c.def_ 31 (d := d_run_out) rfl
    exact ⟨_, fd, He.glo_ok X G (c.fact 30 (f := .glo "run_out") rfl), fun_of (st := OP.topS 86) F⟩
  a_is_came := by
    obtain ⟨fd, F⟩ := c.def_ 32 (d := d_is_came) rfl
    exact ⟨_, fd, He.glo_ok X G (c.fact 31 (f := .glo "is_came") rfl), fun_of (st := OP.topS 89) F⟩
  a_is_number_and_value := by
    obtain ⟨fd, F⟩ := c.def_ 33 (d := d_is_number_and_value) rfl
    exact ⟨_, fd, He.glo_ok X G (c.fact 32 (f := .glo "is_number_and_value") rfl), fun_of (st := OP.topS 90) F⟩
  a_is_at_once := by
    obtain ⟨fd, F⟩ := c.def_ 34 (d := d_is_at_once) rfl
    exact ⟨_, fd, He.glo_ok X G (c.fact 33 (f := .glo "is_at_once") rfl), fun_of (st := OP.topS 92) F⟩
  a_is_item := by
    obtain ⟨fd, F⟩ := c.def_ 35 (d := d_is_item) rfl
    exact ⟨_, fd, He.glo_ok X G (c.fact 34 (f := .glo "is_item") rfl), fun_of (st := OP.topS 93) F⟩
  a_most_told := by
    obtain ⟨fd, F⟩ := c.def_ 36 (d := d_most_told) rfl
    exact ⟨_, fd, He.glo_ok X G (c.fact 35 (f := .glo "most_told") rfl), fun_of (st := OP.topS 94) F⟩
  a_is_told := by
    obtain ⟨fd, F⟩ := c.def_ 37 (d := d_is_told) rfl
    exact ⟨_, fd, He.glo_ok X G (c.fact 36 (f := .glo "is_told") rfl), fun_of (st := OP.topS 95) F⟩
  a_flat := by
    obtain ⟨fd, F⟩ := c.def_ 38 (d := d_flat) rfl
    exact ⟨_, fd, He.glo_ok X G (c.fact 37 (f := .glo "flat") rfl), fun_of (st := OP.topS 96) F⟩
  a_is_within_lot := by
    obtain ⟨fd, F⟩ := c.def_ 39 (d := d_is_within_lot) rfl
    exact ⟨_, fd, He.glo_ok X G (c.fact 38 (f := .glo "is_within_lot") rfl), fun_of (st := OP.topS 98) F⟩
  a_are_chain := by
    obtain ⟨fd, F⟩ := c.def_ 40 (d := d_are_chain) rfl
    exact ⟨_, fd, He.glo_ok X G (c.fact 39 (f := .glo "are_chain") rfl), fun_of (st := OP.topS 99) F⟩
  a_hands_of := by
    obtain ⟨fd, F⟩ := c.def_ 41 (d := d_hands_of) rfl
    exact ⟨_, fd, He.glo_ok X G (c.fact 40 (f := .glo "hands_of") rfl), fun_of (st := OP.topS 102) F⟩
  a_is_strange := by
    obtain ⟨fd, F⟩ := c.def_ 42 (d := d_is_strange) rfl
    exact ⟨_, fd, He.glo_ok X G (c.fact 41 (f := .glo "is_strange") rfl), fun_of (st := OP.topS 103) F⟩
  a_has_more := by
    obtain ⟨fd, F⟩ := c.def_ 43 (d := d_has_more) rfl
    exact ⟨_, fd, He.glo_ok X G (c.fact 42 (f := .glo "has_more") rfl), fun_of (st := OP.topS 104) F⟩
  a_level_fault := by
    obtain ⟨fd, F⟩ := c.def_ 44 (d := d_level_fault) rfl
    exact ⟨_, fd, He.glo_ok X G (c.fact 43 (f := .glo "level_fault") rfl), fun_of (st := OP.topS 105) F⟩
  a_raw_fault := by
    obtain ⟨fd, F⟩ := c.def_ 45 (d := d_raw_fault) rfl
    exact ⟨_, fd, He.glo_ok X G (c.fact 44 (f := .glo "raw_fault") rfl), fun_of (st := OP.topS 109) F⟩
  a_fault := by
    obtain ⟨fd, F⟩ := c.def_ 46 (d := d_fault) rfl
    exact ⟨_, fd, He.glo_ok X G (c.fact 45 (f := .glo "fault") rfl), fun_of (st := OP.topS 110) F⟩
  a__law_hand := by
    obtain ⟨fd, F⟩ := c.def_ 47 (d := d__law_hand) rfl
    exact ⟨_, fd, He.glo_ok X G (c.fact 46 (f := .glo "_law_hand") rfl), fun_of (st := OP.topS 112) F⟩
  a__law_draw := by
    obtain ⟨fd, F⟩ := c.def_ 48 (d := d__law_draw) rfl
    exact ⟨_, fd, He.glo_ok X G (c.fact 47 (f := .glo "_law_draw") rfl), fun_of (st := OP.topS 113) F⟩
  a__law_some := by
    obtain ⟨fd, F⟩ := c.def_ 49 (d := d__law_some) rfl
    exact ⟨_, fd, He.glo_ok X G (c.fact 48 (f := .glo "_law_some") rfl), fun_of (st := OP.topS 114) F⟩
  a__law_is := by
    obtain ⟨fd, F⟩ := c.def_ 50 (d := d__law_is) rfl
    exact ⟨_, fd, He.glo_ok X G (c.fact 49 (f := .glo "_law_is") rfl), fun_of (st := OP.topS 116) F⟩
  a__law_inputs := by
    obtain ⟨fd, F⟩ := c.def_ 51 (d := d__law_inputs) rfl
    exact ⟨_, fd, He.glo_ok X G (c.fact 50 (f := .glo "_law_inputs") rfl), fun_of (st := OP.topS 117) F⟩
  a__law_begin := by
    obtain ⟨fd, F⟩ := c.def_ 52 (d := d__law_begin) rfl
    exact ⟨_, fd, He.glo_ok X G (c.fact 51 (f := .glo "_law_begin") rfl), fun_of (st := OP.topS 118) F⟩
  a__law_next := by
    obtain ⟨fd, F⟩ := c.def_ 53 (d := d__law_next) rfl
    exact ⟨_, fd, He.glo_ok X G (c.fact 52 (f := .glo "_law_next") rfl), fun_of (st := OP.topS 119) F⟩
  a__law_level := by
    obtain ⟨fd, F⟩ := c.def_ 54 (d := d__law_level) rfl
    exact ⟨_, fd, He.glo_ok X G (c.fact 53 (f := .glo "_law_level") rfl), fun_of (st := OP.topS 120) F⟩
  a__law_moved := by
    obtain ⟨fd, F⟩ := c.def_ 55 (d := d__law_moved) rfl
    exact ⟨_, fd, He.glo_ok X G (c.fact 54 (f := .glo "_law_moved") rfl), fun_of (st := OP.topS 124) F⟩
  a__law_left := by
    obtain ⟨fd, F⟩ := c.def_ 56 (d := d__law_left) rfl
    exact ⟨_, fd, He.glo_ok X G (c.fact 55 (f := .glo "_law_left") rfl), fun_of (st := OP.topS 125) F⟩
  a__law_woven := by
    obtain ⟨fd, F⟩ := c.def_ 57 (d := d__law_woven) rfl
    exact ⟨_, fd, He.glo_ok X G (c.fact 56 (f := .glo "_law_woven") rfl), fun_of (st := OP.topS 126) F⟩
  a__law_whole := by
    obtain ⟨fd, F⟩ := c.def_ 58 (d := d__law_whole) rfl
    exact ⟨_, fd, He.glo_ok X G (c.fact 57 (f := .glo "_law_whole") rfl), fun_of (st := OP.topS 127) F⟩
  a__law_came := by
    obtain ⟨fd, F⟩ := c.def_ 59 (d := d__law_came) rfl
    exact ⟨_, fd, He.glo_ok X G (c.fact 58 (f := .glo "_law_came") rfl), fun_of (st := OP.topS 128) F⟩
  a__law_has := by
    obtain ⟨fd, F⟩ := c.def_ 60 (d := d__law_has) rfl
    exact ⟨_, fd, He.glo_ok X G (c.fact 59 (f := .glo "_law_has") rfl), fun_of (st := OP.topS 129) F⟩
  a__law_are_chain := by
    obtain ⟨fd, F⟩ := c.def_ 61 (d := d__law_are_chain) rfl
    exact ⟨_, fd, He.glo_ok X G (c.fact 60 (f := .glo "_law_are_chain") rfl), fun_of (st := OP.topS 130) F⟩
  a__law_all := by
    obtain ⟨fd, F⟩ := c.def_ 62 (d := d__law_all) rfl
    exact ⟨_, fd, He.glo_ok X G (c.fact 61 (f := .glo "_law_all") rfl), fun_of (st := OP.topS 131) F⟩
  a__law_level_fault := by
    obtain ⟨fd, F⟩ := c.def_ 63 (d := d__law_level_fault) rfl
    exact ⟨_, fd, He.glo_ok X G (c.fact 62 (f := .glo "_law_level_fault") rfl), fun_of (st := OP.topS 132) F⟩
  a__law_fault := by
    obtain ⟨fd, F⟩ := c.def_ 64 (d := d__law_fault) rfl
    exact ⟨_, fd, He.glo_ok X G (c.fact 63 (f := .glo "_law_fault") rfl), fun_of (st := OP.topS 135) F⟩
  a__law_led_right := by
    obtain ⟨fd, F⟩ := c.def_ 65 (d := d__law_led_right) rfl
    exact ⟨_, fd, He.glo_ok X G (c.fact 64 (f := .glo "_law_led_right") rfl), fun_of (st := OP.topS 136) F⟩
  a_law := by
    obtain ⟨fd, F⟩ := c.def_ 66 (d := d_law) rfl
    exact ⟨_, fd, He.glo_ok X G (c.fact 65 (f := .glo "law") rfl), fun_of (st := OP.topS 137) F⟩
  f_len := He.free_ok X G (c.fact 66 (f := .free "len") rfl)
  f_all := He.free_ok X G (c.fact 67 (f := .free "all") rfl)
  f_any := He.free_ok X G (c.fact 68 (f := .free "any") rfl)
  f_tuple := He.free_ok X G (c.fact 69 (f := .free "tuple") rfl)
  f_list := He.free_ok X G (c.fact 70 (f := .free "list") rfl)
  f_range := He.free_ok X G (c.fact 71 (f := .free "range") rfl)
  f_enumerate := He.free_ok X G (c.fact 72 (f := .free "enumerate") rfl)
  f_zip := He.free_ok X G (c.fact 73 (f := .free "zip") rfl)
  f_isinstance := He.free_ok X G (c.fact 74 (f := .free "isinstance") rfl)
  f_int := He.free_ok X G (c.fact 75 (f := .free "int") rfl)
  f_abs := He.free_ok X G (c.fact 76 (f := .free "abs") rfl)
  f_sorted := He.free_ok X G (c.fact 77 (f := .free "sorted") rfl)
  f_set := He.free_ok X G (c.fact 78 (f := .free "set") rfl)
  f_str := He.free_ok X G (c.fact 79 (f := .free "str") rfl)
  f_bool := He.free_ok X G (c.fact 80 (f := .free "bool") rfl)
  f_dict := He.free_ok X G (c.fact 81 (f := .free "dict") rfl)
  s_SWEEP := He.str_ok X G (c.fact 93 (f := .str "SWEEP" "sweep") rfl)
  s_TWICE := He.str_ok X G (c.fact 94 (f := .str "TWICE" "twice") rfl)
  s_BORROW := He.str_ok X G (c.fact 95 (f := .str "BORROW" "borrow") rfl)
  s_LEVELS := He.str_ok X G (c.fact 96 (f := .str "LEVELS" "levels") rfl)
  s_NAMES := He.str_ok X G (c.fact 97 (f := .str "NAMES" "names") rfl)
  s_NEAR := He.str_ok X G (c.fact 98 (f := .str "NEAR" "near") rfl)
  s_CHAIN := He.str_ok X G (c.fact 99 (f := .str "CHAIN" "chain") rfl)
  s_PUT := He.str_ok X G (c.fact 100 (f := .str "PUT" "put") rfl)
  s_SEE := He.str_ok X G (c.fact 101 (f := .str "SEE" "see") rfl)
  s_LOOK_levels := He.str_ok X G (c.fact 102 (f := .str "LOOK_levels" "look") rfl)
  s_LOOK_manners := He.str_ok X G (c.fact 103 (f := .str "LOOK_manners" "look") rfl)
  i_MOST_HANDS := He.int_ok X G (c.fact 88 (f := .int "MOST_HANDS" 5) rfl)
  i_MOST_DEEDS := He.int_ok X G (c.fact 89 (f := .int "MOST_DEEDS" 6) rfl)
  i_MOST_VALUE := He.int_ok X G (c.fact 90 (f := .int "MOST_VALUE" 1000) rfl)
  i_MOST_ROUNDS := He.int_ok X G (c.fact 91 (f := .int "MOST_ROUNDS" 6) rfl)
  i_MOST_THING := He.int_ok X G (c.fact 92 (f := .int "MOST_THING" 20) rfl)
  i_MOST_NUMBER := He.int_ok X G (c.fact 104 (f := .int "MOST_NUMBER" 100000000000000000000) rfl)
  manners := ⟨_, He.glo_ok X G (c.fact 105 (f := .glo "MANNERS") rfl), fun H => He.tupB_ok m H⟩
  g_Play := He.glo_ok X G (c.fact 82 (f := .glo "Play") rfl)
  cls := He.cls_ok (c.fact 83 (f := .cls "Play") rfl)
  na_kind := He.noat_ok (c.fact 85 (f := .noat "Play" "kind") rfl)
  na_inputs := He.noat_ok (c.fact 86 (f := .noat "Play" "inputs") rfl)
  na_rows := He.noat_ok (c.fact 87 (f := .noat "Play" "rows") rfl)
  mkr := by
    obtain ⟨fd, F⟩ := c.def_ 0 (d := d_init) rfl
    exact ⟨_, fd, He.mkr_ok (c.fact 84 (f := .mkr "Play") rfl), fun_of (st := inClass (OP.topS 39) 0) F⟩
end OPH

set_option Elab.async false
set_option linter.all false
set_option maxRecDepth 100000
set_option maxHeartbeats 0
/-! HeadG: the end -/
namespace OPH
open PySem PySem.Spec PyProof.Rows L2
theorem facts {P : Program} {w : World} {K : PySem.W.Frag} {h : Heap} {mg : Str → Option Value} {f : Addr} (X : K.In h) (G : h.Ns mainGlobals mg) (hfa : mg ("law" : Str) = some (.ref f)) (c : He.SaysD faT fnT K) (m : exB K = true) :
    ∃ fd : FuncData, (∀ (s : Shared) (v : Value), BindsTo s fd ⟨[v], []⟩ [("_law_script", v)]) ∧ ∀ base : Heap, K.In base → base.Ns mainGlobals mg → FnOk P w K mg base CX0 11 f fd ["_law_script"] (OP.spLaw K) := by
  have T := tx_of X G c m
  obtain ⟨fd, F⟩ := c.def_ 66 (d := d_law) rfl
  have e := hfa.symm.trans (He.glo_ok X G (c.fact 65 (f := .glo "law") rfl))
  cases e
  have b := FunD.bindsA (ps := ["_law_script"]) F fun _ _ _ _ _ _ us hl => match us, hl with | [_], _ => rfl
  exact ⟨fd, fun s v => b s [v] rfl, fun base _ _ => OP.law_fn OP.mth T (fun_of (st := OP.topS 137) F)⟩
end OPH
open PySem PySem.W PySem.Calls PyProof.Rows
theorem PySem.Challenge.cw_onepicture_k12_whole_pictures_at_once_holds : PySem.Challenge.rw_onepicture_k12_whole_pictures_at_once.Holds := by
  w_on; o_law
  refine HandSHeadRun.head_any (r := OpenLaw.row PySem.Challenge.rw_onepicture_k12_whole_pictures_at_once) (q := view (OpenLaw.row PySem.Challenge.rw_onepicture_k12_whole_pictures_at_once).prog [137]) (H := OPH.hk) (ob := OPH.ob) (M := 8000) (loose := OPH.loose) (d := HandSHeadRun.topDef (OpenLaw.row PySem.Challenge.rw_onepicture_k12_whole_pictures_at_once).prog 137) (kwd := []) (fun s => OPH.obsP_eq (HandSHeadRun.getT_eq s))
    (by kernel_rfl) (fun s => by kernel_rfl) OPH.run (by kernel_rfl) (by kernel_rfl) (by kernel_rfl) (by rfl) (by first | assumption | decide +kernel) (by decide +kernel) ⟨rfl, rfl, rfl, rfl, rfl, by decide +kernel⟩ ?hw ?hc
  case hw => w_witness2
  case hc =>
    refine L2.walk_ofE (l := PySem.Challenge.rw_onepicture_k12_whole_pictures_at_once) (n := 63) (k := 11) (x := "_law_script") (CX := L2.CX0) rfl (by decide) (by kernel_rfl) ⟨rfl, by decide, by decide⟩ ?F (fun _ _ _ _ z => z)
    intro w mg fa h Y G hmg0
    obtain ⟨K, KX, c, m⟩ := Y
    have hmg : mg ("law" : PySem.Str) = some (.ref fa) := by
      have e : (HandSHeadRun.topDef (OpenLaw.row PySem.Challenge.rw_onepicture_k12_whole_pictures_at_once).prog 137).name = ("law" : PySem.Str) := by kernel_rfl
      rw [← e]
      exact hmg0
    obtain ⟨fd, hb, hF⟩ := OPH.facts (P := (PySem.Challenge.rw_onepicture_k12_whole_pictures_at_once).prog) (w := w) KX G hmg c m
    exact ⟨K, fd, OP.spLaw K, KX, hb, fun H a ns hl _ hS => ⟨a, ns, rfl, hS, Nat.le_trans hl (by decide), fun _ => rfl⟩, hF⟩
