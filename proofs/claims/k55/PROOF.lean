import PyProof.Rows.All
import Wide.All
import OpenK.AllK
import Wide.FinOn
import KE.KStateDown
import HandS.Base
import HandS.Call
import HandS.Ends
import HandS.Words
import HandS.Defaults
import HandS.Head0
import HandS.Head1
import HandS.Head2
import HandS.HeadEnd
import HandS.HeadHook1
import HandS.HeadHook2
import HandS.HeadHook3
import HandS.HeadHook4
import HandS.ForMost
import HandS.Evl
import HandS.TupAny
import HandS.TupMul
import HandS.IsInst
import HandS.Walk
import HandS.Zip
import HandS.CallLocal
import HandS.Style
import HandS.Flow
import PyProof.MaxThree
import KE.KeyNested
import KE.KDictKeyed
import KE.KDictLaw
import KE.GoesEnum
import KE.GoesMore
import KE.GoesEnumKw
import HandS.Strs
import HandS.SetFor
import HandS.SortRule
import HandS.Conv
import HandS.Comp
import PySem.Challenge.RW_domelights_k55_whole_hidden_lights
set_option Elab.async false
set_option linter.all false
set_option maxRecDepth 100000
set_option maxHeartbeats 0
/-! the head: what the top leaves, by names (printed by top.py) -/
namespace DomeHead
open PySem PySem.Spec PyProof.Rows L2
def top (i : Nat) : Stmt := PySem.Challenge.pw_domelights_k55_whole_hidden_lights.main.body.getD i (.Pass ⟨0, 0, 0, 0⟩)
abbrev s_is_whole : Stmt := top 14
abbrev s_is_among : Stmt := top 15
abbrev s_is_row : Stmt := top 16
abbrev s_is_light_of : Stmt := top 17
abbrev s_is_sky : Stmt := top 18
abbrev s_need_sky : Stmt := top 19
abbrev s_stands_by : Stmt := top 20
abbrev s_is_back : Stmt := top 21
abbrev s_round_of : Stmt := top 22
abbrev s_half_of : Stmt := top 24
abbrev s_is_cell : Stmt := top 25
abbrev s_up_by : Stmt := top 26
abbrev s_is_lamp : Stmt := top 29
abbrev s_are_lamps : Stmt := top 30
abbrev s_cells_of : Stmt := top 31
abbrev s_covers : Stmt := top 32
abbrev s_covering_by : Stmt := top 33
abbrev s_is_item : Stmt := top 42
abbrev s_are_items : Stmt := top 43
abbrev s_size_of : Stmt := top 44
abbrev s_is_scene_by : Stmt := top 45
abbrev s_need_scene : Stmt := top 46
abbrev s_need_both : Stmt := top 47
abbrev s_beats_of : Stmt := top 48
abbrev s_is_state : Stmt := top 49
abbrev s_need_state : Stmt := top 50
abbrev s_unlike : Stmt := top 51
abbrev s_put_on : Stmt := top 52
abbrev s_often : Stmt := top 53
abbrev s_sums_in : Stmt := top 54
abbrev s_sums_of : Stmt := top 55
abbrev s_sums_to : Stmt := top 56
abbrev s_led_by : Stmt := top 57
abbrev s_need_led : Stmt := top 58
abbrev s_led : Stmt := top 59
abbrev s_reach : Stmt := top 60
abbrev s_common : Stmt := top 61
abbrev s_turns_of : Stmt := top 62
abbrev s_turns_near : Stmt := top 63
abbrev s_found_in : Stmt := top 64
abbrev s_found_again : Stmt := top 65
abbrev s_first_where : Stmt := top 66
abbrev s_is_show : Stmt := top 69
abbrev s_need_show : Stmt := top 70
abbrev s_word_of : Stmt := top 71
abbrev s_cell_of : Stmt := top 72
abbrev s_fault_by : Stmt := top 73
abbrev s_has_fault : Stmt := top 74
abbrev s_fault : Stmt := top 75
abbrev s_shown_at : Stmt := top 76
abbrev s_shown : Stmt := top 77
abbrev s_looked_through : Stmt := top 78
abbrev s_bad_cells : Stmt := top 79
abbrev s__law_cell : Stmt := top 81
abbrev s__law_pen : Stmt := top 82
abbrev s__law_draw : Stmt := top 83
abbrev s__law_sky : Stmt := top 84
abbrev s__law_lamp : Stmt := top 85
abbrev s__law_lamps : Stmt := top 86
abbrev s__law_state : Stmt := top 87
abbrev s__law_show : Stmt := top 88
abbrev s__law_item : Stmt := top 89
abbrev s__law_items : Stmt := top 90
abbrev s__law_steps : Stmt := top 91
abbrev s__law_plain : Stmt := top 92
abbrev s__law_beat : Stmt := top 93
abbrev s__law_more_right : Stmt := top 94
abbrev s__law_fewer_right : Stmt := top 95
abbrev s_law : Stmt := top 96
def d_is_whole : He.DefD := ⟨("is_whole", none), "is_whole", "is_whole", defArgs s_is_whole, defBody s_is_whole, defScope s_is_whole, [], []⟩
def d_is_among : He.DefD := ⟨("is_among", none), "is_among", "is_among", defArgs s_is_among, defBody s_is_among, defScope s_is_among, [], []⟩
def d_is_row : He.DefD := ⟨("is_row", none), "is_row", "is_row", defArgs s_is_row, defBody s_is_row, defScope s_is_row, [], []⟩
def d_is_light_of : He.DefD := ⟨("is_light_of", none), "is_light_of", "is_light_of", defArgs s_is_light_of, defBody s_is_light_of, defScope s_is_light_of, [], []⟩
def d_is_sky : He.DefD := ⟨("is_sky", none), "is_sky", "is_sky", defArgs s_is_sky, defBody s_is_sky, defScope s_is_sky, [], []⟩
def d_need_sky : He.DefD := ⟨("need_sky", none), "need_sky", "need_sky", defArgs s_need_sky, defBody s_need_sky, defScope s_need_sky, [], []⟩
def d_stands_by : He.DefD := ⟨("stands_by", none), "stands_by", "stands_by", defArgs s_stands_by, defBody s_stands_by, defScope s_stands_by, [], []⟩
def d_is_back : He.DefD := ⟨("is_back", none), "is_back", "is_back", defArgs s_is_back, defBody s_is_back, defScope s_is_back, [], []⟩
def d_round_of : He.DefD := ⟨("round_of", none), "round_of", "round_of", defArgs s_round_of, defBody s_round_of, defScope s_round_of, [], []⟩
def d_half_of : He.DefD := ⟨("half_of", none), "half_of", "half_of", defArgs s_half_of, defBody s_half_of, defScope s_half_of, [], []⟩
def d_is_cell : He.DefD := ⟨("is_cell", none), "is_cell", "is_cell", defArgs s_is_cell, defBody s_is_cell, defScope s_is_cell, [], []⟩
def d_up_by : He.DefD := ⟨("up_by", none), "up_by", "up_by", defArgs s_up_by, defBody s_up_by, defScope s_up_by, [], []⟩
def d_is_lamp : He.DefD := ⟨("is_lamp", none), "is_lamp", "is_lamp", defArgs s_is_lamp, defBody s_is_lamp, defScope s_is_lamp, [], []⟩
def d_are_lamps : He.DefD := ⟨("are_lamps", none), "are_lamps", "are_lamps", defArgs s_are_lamps, defBody s_are_lamps, defScope s_are_lamps, [], []⟩
def d_cells_of : He.DefD := ⟨("cells_of", none), "cells_of", "cells_of", defArgs s_cells_of, defBody s_cells_of, defScope s_cells_of, [], []⟩
def d_covers : He.DefD := ⟨("covers", none), "covers", "covers", defArgs s_covers, defBody s_covers, defScope s_covers, [], []⟩
def d_covering_by : He.DefD := ⟨("covering_by", none), "covering_by", "covering_by", defArgs s_covering_by, defBody s_covering_by, defScope s_covering_by, [], []⟩
def d_is_item : He.DefD := ⟨("is_item", none), "is_item", "is_item", defArgs s_is_item, defBody s_is_item, defScope s_is_item, [], []⟩
def d_are_items : He.DefD := ⟨("are_items", none), "are_items", "are_items", defArgs s_are_items, defBody s_are_items, defScope s_are_items, [], []⟩
def d_size_of : He.DefD := ⟨("size_of", none), "size_of", "size_of", defArgs s_size_of, defBody s_size_of, defScope s_size_of, [], []⟩
def d_is_scene_by : He.DefD := ⟨("is_scene_by", none), "is_scene_by", "is_scene_by", defArgs s_is_scene_by, defBody s_is_scene_by, defScope s_is_scene_by, [], []⟩
def d_need_scene : He.DefD := ⟨("need_scene", none), "need_scene", "need_scene", defArgs s_need_scene, defBody s_need_scene, defScope s_need_scene, [], []⟩
def d_need_both : He.DefD := ⟨("need_both", none), "need_both", "need_both", defArgs s_need_both, defBody s_need_both, defScope s_need_both, [], []⟩
def d_beats_of : He.DefD := ⟨("beats_of", none), "beats_of", "beats_of", defArgs s_beats_of, defBody s_beats_of, defScope s_beats_of, [], []⟩
def d_is_state : He.DefD := ⟨("is_state", none), "is_state", "is_state", defArgs s_is_state, defBody s_is_state, defScope s_is_state, [], []⟩
def d_need_state : He.DefD := ⟨("need_state", none), "need_state", "need_state", defArgs s_need_state, defBody s_need_state, defScope s_need_state, [], []⟩
def d_unlike : He.DefD := ⟨("unlike", none), "unlike", "unlike", defArgs s_unlike, defBody s_unlike, defScope s_unlike, [], []⟩
def d_put_on : He.DefD := ⟨("put_on", none), "put_on", "put_on", defArgs s_put_on, defBody s_put_on, defScope s_put_on, [], []⟩
def d_often : He.DefD := ⟨("often", none), "often", "often", defArgs s_often, defBody s_often, defScope s_often, [], []⟩
def d_sums_in : He.DefD := ⟨("sums_in", none), "sums_in", "sums_in", defArgs s_sums_in, defBody s_sums_in, defScope s_sums_in, [], []⟩
def d_sums_of : He.DefD := ⟨("sums_of", none), "sums_of", "sums_of", defArgs s_sums_of, defBody s_sums_of, defScope s_sums_of, [], []⟩
def d_sums_to : He.DefD := ⟨("sums_to", none), "sums_to", "sums_to", defArgs s_sums_to, defBody s_sums_to, defScope s_sums_to, [], []⟩
def d_led_by : He.DefD := ⟨("led_by", none), "led_by", "led_by", defArgs s_led_by, defBody s_led_by, defScope s_led_by, [], []⟩
def d_need_led : He.DefD := ⟨("need_led", none), "need_led", "need_led", defArgs s_need_led, defBody s_need_led, defScope s_need_led, [], []⟩
def d_led : He.DefD := ⟨("led", none), "led", "led", defArgs s_led, defBody s_led, defScope s_led, [], []⟩
def d_reach : He.DefD := ⟨("reach", none), "reach", "reach", defArgs s_reach, defBody s_reach, defScope s_reach, [], []⟩
def d_common : He.DefD := ⟨("common", none), "common", "common", defArgs s_common, defBody s_common, defScope s_common, [], []⟩
def d_turns_of : He.DefD := ⟨("turns_of", none), "turns_of", "turns_of", defArgs s_turns_of, defBody s_turns_of, defScope s_turns_of, [], []⟩
def d_turns_near : He.DefD := ⟨("turns_near", none), "turns_near", "turns_near", defArgs s_turns_near, defBody s_turns_near, defScope s_turns_near, [], []⟩
def d_found_in : He.DefD := ⟨("found_in", none), "found_in", "found_in", defArgs s_found_in, defBody s_found_in, defScope s_found_in, [], []⟩
def d_found_again : He.DefD := ⟨("found_again", none), "found_again", "found_again", defArgs s_found_again, defBody s_found_again, defScope s_found_again, [], []⟩
def d_first_where : He.DefD := ⟨("first_where", none), "first_where", "first_where", defArgs s_first_where, defBody s_first_where, defScope s_first_where, [], []⟩
def d_is_show : He.DefD := ⟨("is_show", none), "is_show", "is_show", defArgs s_is_show, defBody s_is_show, defScope s_is_show, [], []⟩
def d_need_show : He.DefD := ⟨("need_show", none), "need_show", "need_show", defArgs s_need_show, defBody s_need_show, defScope s_need_show, [], []⟩
def d_word_of : He.DefD := ⟨("word_of", none), "word_of", "word_of", defArgs s_word_of, defBody s_word_of, defScope s_word_of, [], []⟩
def d_cell_of : He.DefD := ⟨("cell_of", none), "cell_of", "cell_of", defArgs s_cell_of, defBody s_cell_of, defScope s_cell_of, [], []⟩
def d_fault_by : He.DefD := ⟨("fault_by", none), "fault_by", "fault_by", defArgs s_fault_by, defBody s_fault_by, defScope s_fault_by, [], []⟩
def d_has_fault : He.DefD := ⟨("has_fault", none), "has_fault", "has_fault", defArgs s_has_fault, defBody s_has_fault, defScope s_has_fault, [], []⟩
def d_fault : He.DefD := ⟨("fault", none), "fault", "fault", defArgs s_fault, defBody s_fault, defScope s_fault, [], []⟩
def d_shown_at : He.DefD := ⟨("shown_at", none), "shown_at", "shown_at", defArgs s_shown_at, defBody s_shown_at, defScope s_shown_at, [], []⟩
def d_shown : He.DefD := ⟨("shown", none), "shown", "shown", defArgs s_shown, defBody s_shown, defScope s_shown, [], []⟩
def d_looked_through : He.DefD := ⟨("looked_through", none), "looked_through", "looked_through", defArgs s_looked_through, defBody s_looked_through, defScope s_looked_through, [], []⟩
def d_bad_cells : He.DefD := ⟨("bad_cells", none), "bad_cells", "bad_cells", defArgs s_bad_cells, defBody s_bad_cells, defScope s_bad_cells, [], []⟩
def d__law_cell : He.DefD := ⟨("_law_cell", none), "_law_cell", "_law_cell", defArgs s__law_cell, defBody s__law_cell, defScope s__law_cell, [], []⟩
def d__law_pen : He.DefD := ⟨("_law_pen", none), "_law_pen", "_law_pen", defArgs s__law_pen, defBody s__law_pen, defScope s__law_pen, [], []⟩
def d__law_draw : He.DefD := ⟨("_law_draw", none), "_law_draw", "_law_draw", defArgs s__law_draw, defBody s__law_draw, defScope s__law_draw, [], []⟩
def d__law_sky : He.DefD := ⟨("_law_sky", none), "_law_sky", "_law_sky", defArgs s__law_sky, defBody s__law_sky, defScope s__law_sky, [], []⟩
def d__law_lamp : He.DefD := ⟨("_law_lamp", none), "_law_lamp", "_law_lamp", defArgs s__law_lamp, defBody s__law_lamp, defScope s__law_lamp, [], []⟩
def d__law_lamps : He.DefD := ⟨("_law_lamps", none), "_law_lamps", "_law_lamps", defArgs s__law_lamps, defBody s__law_lamps, defScope s__law_lamps, [], []⟩
def d__law_state : He.DefD := ⟨("_law_state", none), "_law_state", "_law_state", defArgs s__law_state, defBody s__law_state, defScope s__law_state, [], []⟩
def d__law_show : He.DefD := ⟨("_law_show", none), "_law_show", "_law_show", defArgs s__law_show, defBody s__law_show, defScope s__law_show, [], []⟩
def d__law_item : He.DefD := ⟨("_law_item", none), "_law_item", "_law_item", defArgs s__law_item, defBody s__law_item, defScope s__law_item, [], []⟩
def d__law_items : He.DefD := ⟨("_law_items", none), "_law_items", "_law_items", defArgs s__law_items, defBody s__law_items, defScope s__law_items, [], []⟩
def d__law_steps : He.DefD := ⟨("_law_steps", none), "_law_steps", "_law_steps", defArgs s__law_steps, defBody s__law_steps, defScope s__law_steps, [], []⟩
def d__law_plain : He.DefD := ⟨("_law_plain", none), "_law_plain", "_law_plain", defArgs s__law_plain, defBody s__law_plain, defScope s__law_plain, [], []⟩
def d__law_beat : He.DefD := ⟨("_law_beat", none), "_law_beat", "_law_beat", defArgs s__law_beat, defBody s__law_beat, defScope s__law_beat, [], []⟩
def d__law_more_right : He.DefD := ⟨("_law_more_right", none), "_law_more_right", "_law_more_right", defArgs s__law_more_right, defBody s__law_more_right, defScope s__law_more_right, [], []⟩
def d__law_fewer_right : He.DefD := ⟨("_law_fewer_right", none), "_law_fewer_right", "_law_fewer_right", defArgs s__law_fewer_right, defBody s__law_fewer_right, defScope s__law_fewer_right, [], []⟩
def d_law : He.DefD := ⟨("law", none), "law", "law", defArgs s_law, defBody s_law, defScope s_law, [], []⟩
def fn : List He.DefD := [d_is_whole, d_is_among, d_is_row, d_is_light_of, d_is_sky, d_need_sky, d_stands_by, d_is_back, d_round_of, d_half_of, d_is_cell, d_up_by, d_is_lamp, d_are_lamps, d_cells_of, d_covers, d_covering_by, d_is_item, d_are_items, d_size_of, d_is_scene_by, d_need_scene, d_need_both, d_beats_of, d_is_state, d_need_state, d_unlike, d_put_on, d_often, d_sums_in, d_sums_of, d_sums_to, d_led_by, d_need_led, d_led, d_reach, d_common, d_turns_of, d_turns_near, d_found_in, d_found_again, d_first_where, d_is_show, d_need_show, d_word_of, d_cell_of, d_fault_by, d_has_fault, d_fault, d_shown_at, d_shown, d_looked_through, d_bad_cells, d__law_cell, d__law_pen, d__law_draw, d__law_sky, d__law_lamp, d__law_lamps, d__law_state, d__law_show, d__law_item, d__law_items, d__law_steps, d__law_plain, d__law_beat, d__law_more_right, d__law_fewer_right, d_law]
def fa : List He.Fa := [.glo "is_whole", .glo "is_among", .glo "is_row", .glo "is_light_of", .glo "is_sky", .glo "need_sky", .glo "stands_by", .glo "is_back", .glo "round_of", .glo "half_of", .glo "is_cell", .glo "up_by", .glo "is_lamp", .glo "are_lamps", .glo "cells_of", .glo "covers", .glo "covering_by", .glo "is_item", .glo "are_items", .glo "size_of", .glo "is_scene_by", .glo "need_scene", .glo "need_both", .glo "beats_of", .glo "is_state", .glo "need_state", .glo "unlike", .glo "put_on", .glo "often", .glo "sums_in", .glo "sums_of", .glo "sums_to", .glo "led_by", .glo "need_led", .glo "led", .glo "reach", .glo "common", .glo "turns_of", .glo "turns_near", .glo "found_in", .glo "found_again", .glo "first_where", .glo "is_show", .glo "need_show", .glo "word_of", .glo "cell_of", .glo "fault_by", .glo "has_fault", .glo "fault", .glo "shown_at", .glo "shown", .glo "looked_through", .glo "bad_cells", .glo "_law_cell", .glo "_law_pen", .glo "_law_draw", .glo "_law_sky", .glo "_law_lamp", .glo "_law_lamps", .glo "_law_state", .glo "_law_show", .glo "_law_item", .glo "_law_items", .glo "_law_steps", .glo "_law_plain", .glo "_law_beat", .glo "_law_more_right", .glo "_law_fewer_right", .glo "law", .glo "NOTHING", .free "abs", .free "all", .free "bool", .free "enumerate", .free "int", .free "isinstance", .free "len", .free "list", .free "max", .free "min", .free "range", .free "set", .free "sorted", .free "str", .free "tuple", .free "zip", .int "LEAST_WIDE" 4, .int "MOST_WIDE" 12, .int "MOST_HIGH" 5, .int "MOST_LIGHTS" 6, .int "MOST_SPEED" 9, .int "MOST_ROWS" 4, .int "MOST_LAMPS" 6, .int "MOST_GO" 99, .int "MOST_TIMES" 1000000, .int "MOST_ITEMS" 8, .int "MOST_DEEP" 3, .int "MOST_BEATS" 100000000000, .int "MOST_OFF" 9, .str "AGAIN" "again"]
/-- the i-th item of the tuple at a, an object -/
def itemAt (K : PySem.W.Frag) (a : Addr) (i : Nat) : Addr := match K.lookup a with
  | some ⟨_, _, .seq its _, _⟩ => (match its.toList[i]? with
    | some (.ref b) => b
    | _ => 0)
  | _ => 0
def tupAt (K : PySem.W.Frag) (a : Addr) (vs : List V) : Bool := match K.lookup a with
  | some ⟨.type c, _, .seq its _, _⟩ => decide (c = "tuple") && (decide (its.size ≤ sizeLine) && He.relAll vs its.toList)
  | _ => false
theorem tupAt_ok {K : PySem.W.Frag} {a : Addr} {vs : List V} (h : tupAt K a vs = true) (H : Hp) : SqT K H a vs := by
  unfold tupAt at h
  cases q : K.lookup a with
  | none =>
    rw [q] at h
    cases h
  | some o =>
    obtain ⟨oc, od, dt, osl⟩ := o
    rw [q] at h
    cases oc with
    | type c =>
      cases dt with
      | seq its n =>
        obtain ⟨h1, h2⟩ := He.ba (show (decide (c = "tuple") && (decide (its.size ≤ sizeLine) && He.relAll vs its.toList)) = true from h)
        obtain ⟨h3, h4⟩ := He.ba h2
        exact .inr ⟨_, its, n, q, congrArg Value.type (of_decide_eq_true h1), rfl, of_decide_eq_true h3, He.relAll_ok h4⟩
      | _ => cases h
    | _ => cases dt <;> cases h
def nothingE (K : PySem.W.Frag) : Addr := itemAt K (He.ga K "NOTHING") 3
def more (K : PySem.W.Frag) : Bool := tupAt K (He.ga K "NOTHING") [.int 0, .int 0, .int 0, .ref (nothingE K)] && tupAt K (nothingE K) []
abbrev R : PySem.W.OpenRow := PySem.W.OpenLaw.row PySem.Challenge.rw_domelights_k55_whole_hidden_lights
abbrev hk : PySem.W.Hook := He.hookX 4 fa fn [] [] more
def ob (s : PySem.W.SharedT) : He.AlX := He.obsX 4 fa fn [] [] more (HandSHeadRun.getT s)
theorem ob_eq (s : PySem.W.SharedT) : ob s = hk.obs s.abs := He.obsX_eq (HandSHeadRun.getT_eq s)
def loose0 : List Str := ["DomeError", "NoSky", "NoScene", "NoState", "NoBeats", "NoShow", "LEAST_WIDE", "MOST_WIDE", "MOST_HIGH", "MOST_LIGHTS", "MOST_SPEED", "MOST_ROWS", "is_whole", "is_among", "is_row", "is_light_of", "is_sky", "need_sky", "stands_by", "is_back", "round_of", "half_of", "is_cell", "up_by", "MOST_LAMPS", "is_lamp", "are_lamps", "cells_of", "covers", "covering_by"]
def loose1 : List Str := ["MOST_GO", "MOST_TIMES", "MOST_ITEMS", "MOST_DEEP", "MOST_BEATS", "AGAIN", "NOTHING", "is_item", "are_items", "size_of", "is_scene_by", "need_scene", "need_both", "beats_of", "is_state", "need_state", "unlike", "put_on", "often", "sums_in", "sums_of", "sums_to", "led_by", "need_led", "led", "reach", "common", "turns_of", "turns_near", "found_in"]
def loose2 : List Str := ["found_again", "first_where", "MOST_OFF", "is_show", "need_show", "word_of", "cell_of", "fault_by", "has_fault", "fault", "shown_at", "shown", "looked_through", "bad_cells", "_law_cell", "_law_pen", "_law_draw", "_law_sky", "_law_lamp", "_law_lamps", "_law_state", "_law_show", "_law_item", "_law_items", "_law_steps", "_law_plain", "_law_beat", "_law_more_right", "_law_fewer_right"]
def loose : List Str := loose0 ++ loose1 ++ loose2
theorem run (w : World) : HandSHeadRun.RunEq R (PySem.W.view R.prog [96]) hk ob 4000 loose w := by
  intro os
  kernel_rfl
end DomeHead
/-! the program's functions over plain data -/
namespace Dome
open PySem

structure Light where
  col : Int
  spd : Int
  rows : List Int
structure Sky where
  wide : Int
  high : Int
  lights : List Light
structure Lamp where
  first : Int
  last : Int
  low : Int
  top : Int
structure Show where
  lamps : List Lamp
  offs : List Int
  slack : Int
structure Stt where
  m : Int
  e : Int
  n : Int
  hid : List Int
inductive Item where
  | go (m e n : Int)
  | flip (l : Int)
  | mark
  | again (t : Int) (xs : List Item)

/-! ### skies -/
def Light.ok (w h : Int) (l : Light) : Prop := 0 ≤ l.col ∧ l.col ≤ w - 1 ∧ -9 ≤ l.spd ∧ l.spd ≤ 9 ∧ 1 ≤ l.rows.length ∧ l.rows.length ≤ 4 ∧ ∀ r ∈ l.rows, 0 ≤ r ∧ r ≤ h - 1
structure Sky.ok (s : Sky) : Prop where
  w1 : 4 ≤ s.wide
  w2 : s.wide ≤ 12
  h1 : 1 ≤ s.high
  h2 : s.high ≤ 5
  n1 : 1 ≤ s.lights.length
  n2 : s.lights.length ≤ 6
  ls : ∀ l ∈ s.lights, l.ok s.wide s.high
def nthRow (l : Light) (t : Int) : Int := l.rows.getD (t % (l.rows.length : Int)).toNat 0
def stands (s : Sky) (l : Light) (t : Int) : Int × Int := ((l.col + l.spd * t) % s.wide, nthRow l t)
def backB (s : Sky) (l : Light) (many : Nat) : Bool := (l.spd * (many : Int) % s.wide == 0) && (List.range l.rows.length).all fun i => l.rows.getD ((((i : Nat) : Int) + (many : Int)) % (l.rows.length : Int)).toNat 0 == l.rows.getD i 0
def allBack (s : Sky) (many : Nat) : Bool := s.lights.all fun l => backB s l many
/-- the least number from k on, k turns below n left -/
def leastFrom (p : Nat → Bool) : Nat → Nat → Nat
  | 0, k => k
  | n + 1, k => if p k then k else leastFrom p n (k + 1)
def roundOf (s : Sky) : Nat := leastFrom (allBack s) 143 1

/-! ### domes -/
def inCell (s : Sky) (c r : Int) : Bool := (decide (0 ≤ c) && decide (c ≤ s.wide / 2 - 1)) && (decide (0 ≤ r) && decide (r ≤ s.high - 1))
def upBy (s : Sky) (l : Light) (e n t : Int) : Option (Int × Int) :=
  if inCell s (((stands s l t).1 + e) % s.wide) ((stands s l t).2 + n) then some (((stands s l t).1 + e) % s.wide, (stands s l t).2 + n) else none

/-! ### lamps -/
def Lamp.ok (s : Sky) (l : Lamp) : Prop := 0 ≤ l.first ∧ l.first ≤ l.last ∧ l.last ≤ s.wide / 2 - 1 ∧ 0 ≤ l.low ∧ l.low ≤ l.top ∧ l.top ≤ s.high - 1
def covers (l : Lamp) (c r : Int) : Bool := (decide (l.first ≤ c) && decide (c ≤ l.last)) && (decide (l.low ≤ r) && decide (r ≤ l.top))
/-- the numbers from k on of the lamps that cover a cell -/
def covFrom (c r : Int) : Nat → List Lamp → List Int
  | _, [] => []
  | k, l :: ls => if covers l c r then (k : Int) :: covFrom c r (k + 1) ls else covFrom c r (k + 1) ls
def covering (ls : List Lamp) (c r : Int) : List Int := covFrom c r 0 ls

/-! ### shows -/
structure Show.ok (s : Sky) (w : Show) : Prop where
  n1 : 1 ≤ w.lamps.length
  n2 : w.lamps.length ≤ 6
  ls : ∀ l ∈ w.lamps, l.ok s
  no : w.offs.length = w.lamps.length
  of : ∀ o ∈ w.offs, -9 ≤ o ∧ o ≤ 9
  s1 : 0 ≤ w.slack
  s2 : w.slack ≤ 9
def maxL : List Int → Int
  | [] => 0
  | [a] => a
  | a :: b :: r => max a (maxL (b :: r))
def minL : List Int → Int
  | [] => 0
  | [a] => a
  | a :: b :: r => min a (minL (b :: r))
def absI (i : Int) : Int := if i < 0 then -i else i
def ownOffs (w : Show) (c r : Int) : List Int := (covering w.lamps c r).map fun k => w.offs.getD k.toNat 0
def wordOf (w : Show) (c r : Int) : Option Str :=
  if ownOffs w c r = [] then some "dark" else
  if maxL ((ownOffs w c r).map absI) > w.slack then some "off" else
  if maxL (ownOffs w c r) - minL (ownOffs w c r) > w.slack then some "seam" else none
def cellOf (s : Sky) (st : Stt) (k : Nat) (l : Light) : Option (Int × Int) := if (k : Int) ∈ st.hid then none else upBy s l st.e st.n st.m
def wordAt (s : Sky) (w : Show) (st : Stt) (k : Nat) (l : Light) : Option Str := match cellOf s st k l with
  | none => none
  | some (c, r) => wordOf w c r
def faultFrom (s : Sky) (w : Show) (st : Stt) : Nat → List Light → Option (Int × Str)
  | _, [] => none
  | k, l :: ls => match wordAt s w st k l with
    | some x => some ((k : Int), x)
    | none => faultFrom s w st (k + 1) ls
def faultBy (s : Sky) (w : Show) (st : Stt) : Option (Int × Str) := faultFrom s w st 0 s.lights
def hasFault (s : Sky) (w : Show) (st : Stt) : Bool := (faultBy s w st).isSome

/-! ### states, sums -/
structure Stt.ok (s : Sky) (st : Stt) : Prop where
  rise : st.hid.Pairwise (· < ·)
  rng : ∀ l ∈ st.hid, 0 ≤ l ∧ l ≤ (s.lights.length : Int) - 1
def ins (x : Int) : List Int → List Int
  | [] => [x]
  | y :: r => if x ≤ y then x :: y :: r else y :: ins x r
def isort : List Int → List Int
  | [] => []
  | x :: r => ins x (isort r)
def unl (a b : List Int) : List Int := isort ((a ++ b).filter fun x => decide (x ∈ a) != decide (x ∈ b))
def putOn (a b : Stt) : Stt := ⟨a.m + b.m, a.e + b.e, a.n + b.n, unl a.hid b.hid⟩
def often (a : Stt) (t : Int) : Stt := ⟨a.m * t, a.e * t, a.n * t, if t % 2 = 1 then a.hid else []⟩
def zero : Stt := ⟨0, 0, 0, []⟩
mutual
def sizeI : Item → Int
  | .go _ _ _ => 1
  | .flip _ => 1
  | .mark => 0
  | .again t xs => t * sizeL xs
def sizeL : List Item → Int
  | [] => 0
  | x :: r => sizeI x + sizeL r
end
mutual
def sumI : Item → Stt
  | .go m e n => ⟨m, e, n, []⟩
  | .flip l => ⟨0, 0, 0, [l]⟩
  | .mark => zero
  | .again t xs => often (sumL zero xs) t
def sumL : Stt → List Item → Stt
  | f, [] => f
  | f, x :: r => sumL (putOn f (sumI x)) r
end
def sums (xs : List Item) : Stt := sumL zero xs
mutual
/-- what the first so many beats of an item do, fewer than it has -/
def partI : Item → Int → Stt → Stt
  | .again _ xs, b, f => putOn (putOn f (often (sums xs) (b / sizeL xs))) (partL xs (b % sizeL xs) zero)
  | _, _, f => f
def partL : List Item → Int → Stt → Stt
  | [], _, f => f
  | x :: r, b, f => if sizeI x ≤ b then partL r (b - sizeI x) (putOn f (sumI x)) else if 0 < b then partI x b f else partL r b f
end
def sumsTo (xs : List Item) (b : Int) : Stt := partL xs b zero
/- items: so many, so deep, so often at the most -/
mutual
def okI (s : Sky) : Nat → Item → Prop
  | _, .go m e n => -99 ≤ m ∧ m ≤ 99 ∧ -99 ≤ e ∧ e ≤ 99 ∧ -99 ≤ n ∧ n ≤ 99
  | _, .flip l => 0 ≤ l ∧ l ≤ (s.lights.length : Int) - 1
  | _, .mark => True
  | 0, .again _ _ => False
  | d + 1, .again t xs => 0 ≤ t ∧ t ≤ 4 ∧ xs.length ≤ 3 ∧ okL s d xs
def okL (s : Sky) : Nat → List Item → Prop
  | _, [] => True
  | d, x :: r => okI s d x ∧ okL s d r
end
mutual
def plainI : Item → Prop
  | .flip _ => False
  | .again _ xs => plainL xs
  | _ => True
def plainL : List Item → Prop
  | [] => True
  | x :: r => plainI x ∧ plainL r
end

/-! ### the search -/
mutual
def reachI : Item → (Int × Int × Int) → (Int × Int × Int)
  | .again t xs, (low, top, here) =>
    if t > 0 then
      let far := here + (t - 1) * (sums xs).n
      let r := reachL xs (0, 0, 0)
      let low1 := min (min low (here + r.1)) (far + r.1)
      let top1 := max (max top (here + r.2.1)) (far + r.2.1)
      let here1 := here + (sumI (.again t xs)).n
      (min low1 here1, max top1 here1, here1)
    else
      let here1 := here + (sumI (.again t xs)).n
      (min low here1, max top here1, here1)
  | x, (low, top, here) =>
    let here1 := here + (sumI x).n
    (min low here1, max top here1, here1)
def reachL : List Item → (Int × Int × Int) → (Int × Int × Int)
  | [], a => a
  | x :: r, a => reachL r (reachI x a)
end
def reach (xs : List Item) : Int × Int := ((reachL xs (0, 0, 0)).1, (reachL xs (0, 0, 0)).2.1)
def turnsOf (s : Sky) : Int :=
  let f := (roundOf s : Int)
  let f1 := f * s.wide / (Nat.gcd f.toNat s.wide.toNat : Int)
  f1 * 2 / (Nat.gcd f1.toNat 2 : Int)
def turnsNear (s : Sky) (t : Int) (xs : List Item) (north most : Int) : Int × Int :=
  let drift := (sums xs).n
  let far := s.high - 1
  let low := (reach xs).1
  let top := (reach xs).2
  if drift = 0 then
    (0, if north + low ≤ far ∧ 0 - far ≤ north + top then min t most else 0)
  else
    let down := 0 - far - top - north
    let up := far - low - north
    if drift < 0 then
      (max 0 (0 - (0 - (0 - up)) / (0 - drift)), min t ((0 - down) / (0 - drift) + 1))
    else
      (max 0 (0 - (0 - down) / drift), min t (up / drift + 1))
abbrev Memo := List (List Int)
def addK (mm : Memo) (k : List Int) : Memo := if k ∈ mm then mm else mm ++ [k]
/-- turn by turn: f gives the beats at a turn -/
def turnLoop (f : Int → Memo → Option Int × Memo) (size : Int) : Nat → Int → Memo → Option Int × Memo
  | 0, _, mm => (none, mm)
  | n + 1, k, mm => match f k mm with
    | (some b, mm') => (some (k * size + b), mm')
    | (none, mm') => turnLoop f size n (k + 1) mm'
def keyed (key : List Int) (f : Memo → Option Int × Memo) (mm : Memo) : Option Int × Memo :=
  if key ∈ mm then (none, mm) else match f mm with
    | (some b, mm') => (some b, mm')
    | (none, mm') => (none, addK mm' key)
structure Cfg where
  sky : Sky
  tst : Int → Int → Int → Bool
def Cfg.key (c : Cfg) (path : List Int) (m e n : Int) : List Int := path ++ [m % (roundOf c.sky : Int), e % c.sky.wide, n]
mutual
def findI (c : Cfg) : Item → List Int → Int → Int → Int → Memo → Option Int × Memo
  | .again t xs, path, m, e, n, mm =>
    if sizeL xs = 0 then (none, mm) else
    turnLoop (fun k mm => keyed (c.key path (m + (sums xs).m * k) (e + (sums xs).e * k) (n + (sums xs).n * k)) (findL c xs 0 0 path (m + (sums xs).m * k) (e + (sums xs).e * k) (n + (sums xs).n * k)) mm)
      (sizeL xs) ((turnsNear c.sky t xs n (turnsOf c.sky)).2 - (turnsNear c.sky t xs n (turnsOf c.sky)).1).toNat (turnsNear c.sky t xs n (turnsOf c.sky)).1 mm
  | .mark, _, _, _, _, mm => (none, mm)
  | .go dm de dn, _, m, e, n, mm => if c.tst (m + dm) (e + de) (n + dn) then (some 1, mm) else (none, mm)
  | .flip _, _, m, e, n, mm => (none, mm)
def findL (c : Cfg) : List Item → Nat → Int → List Int → Int → Int → Int → Memo → Option Int × Memo
  | [], _, _, _, _, _, _, mm => (none, mm)
  | x :: r, k, gone, path, m, e, n, mm => match findI c x (path ++ [(k : Int)]) m e n mm with
    | (some b, mm') => (some (gone + b), mm')
    | (none, mm') => findL c r (k + 1) (gone + sizeI x) path (m + (sumI x).m) (e + (sumI x).e) (n + (sumI x).n) mm'
end
def findIn (c : Cfg) (xs : List Item) (path : List Int) (m e n : Int) (mm : Memo) : Option Int × Memo := keyed (c.key path m e n) (findL c xs 0 0 path m e n) mm
def firstWhere (s : Sky) (w : Show) (xs : List Item) (st : Stt) : Option Int :=
  if hasFault s w st then some 0 else (findIn ⟨s, fun m e n => hasFault s w ⟨m, e, n, st.hid⟩⟩ xs [] st.m st.e st.n []).1
def lookBeat (s : Sky) (w : Show) (xs : List Item) (st : Stt) : Int := match firstWhere s w xs st with
  | some b => b
  | none => sizeL xs + 1
/-! ### what is shown -/
def shownAt (w : Show) : Option (Int × Int) → List (Int × Int)
  | none => []
  | some (c, r) => (covering w.lamps c r).map fun k => (c + w.offs.getD k.toNat 0, k)
end Dome
/-! What a reading comes to, told as data: Dt (a value stands for data), Ed (an expression comes to data), Eb (a test), Ea (arguments), El (a new list). -/
namespace Dome
open PySem L2 Evl

mutual
inductive Dt (K : PySem.W.Frag) (H : Hp) : V → PyData → Prop
  | non : Dt K H .non .none
  | bl (b : Bool) : Dt K H (.bl b) (.bool b)
  | int (i : Int) : Dt K H (.int i) (.int i)
  | str (x : Str) : Dt K H (.str x) (.str x)
  | tup {a : Addr} {xs : List V} {ds : List PyData} : SqT K H a xs → DtA K H xs ds → Dt K H (.ref a) (.tuple ds)
inductive DtA (K : PySem.W.Frag) (H : Hp) : List V → List PyData → Prop
  | nil : DtA K H [] []
  | cons {v : V} {vs : List V} {d : PyData} {ds : List PyData} : Dt K H v d → DtA K H vs ds → DtA K H (v :: vs) (d :: ds)
end

/-- the tuples stand -/
def Tx (H H' : Hp) : Prop := ∀ a xs, Rd H a (.tup xs) → Rd H' a (.tup xs)
theorem Tx.refl (H : Hp) : Tx H H := fun _ _ h => h
theorem Tx.trans {H H1 H2 : Hp} (a : Tx H H1) (b : Tx H1 H2) : Tx H H2 := fun c xs h => b c xs (a c xs h)
theorem Tx.of {H H' : Hp} (e : Ex H H') : Tx H H' := fun _ _ h => ex_rd e h
theorem Tx.sq {K : PySem.W.Frag} {H H' : Hp} {a : Addr} {xs : List V} (t : Tx H H') (h : SqT K H a xs) : SqT K H' a xs := by
  rcases h with h | h
  · exact .inl (t _ _ h)
  · exact .inr h
/-- an object that is no tuple may change -/
theorem Tx.upd {H : Hp} {p : Addr} {o : HO} (h : ∀ xs, ¬ Rd H p (.tup xs)) : Tx H (upd H p o) := fun a xs q => by
  have ne : a ≠ p := fun e => by subst e; exact h xs q
  unfold Rd
  rw [upd_ne ne]
  exact q
theorem Tx.lst {H : Hp} {p : Addr} {ys : List V} {o : HO} (h : H p = some (.lst ys)) : Tx H (L2.upd H p o) := Tx.upd fun xs q => by
  rcases q with q | ⟨_, q⟩
  · rw [h] at q; cases q
  · rw [h] at q; cases q
theorem Tx.new {H : Hp} {p : Addr} {o : HO} (h : H p = none) : Tx H (L2.upd H p o) := Tx.of (Ex.new h)

mutual
theorem Dt.mono {K : PySem.W.Frag} {H H' : Hp} (t : Tx H H') : ∀ (d : PyData) (v : V), Dt K H v d → Dt K H' v d
  | .none, _, h => by cases h; exact .non
  | .bool b, _, h => by cases h; exact .bl b
  | .int i, _, h => by cases h; exact .int i
  | .str x, _, h => by cases h; exact .str x
  | .tuple ds, _, h => by
    cases h with
    | tup hs ha => exact .tup (t.sq hs) (DtA.mono t ds _ ha)
  | .list ds, _, h => by cases h
  | .dict ds, _, h => by cases h
theorem DtA.mono {K : PySem.W.Frag} {H H' : Hp} (t : Tx H H') : ∀ (ds : List PyData) (vs : List V), DtA K H vs ds → DtA K H' vs ds
  | [], _, h => by cases h; exact .nil
  | d :: ds, _, h => by
    cases h with
    | cons h1 h2 => exact .cons (Dt.mono t d _ h1) (DtA.mono t ds _ h2)
end
theorem Dt.at {K : PySem.W.Frag} {H H' : Hp} {d : PyData} {v : V} (h : Dt K H v d) (t : Tx H H') : Dt K H' v d := Dt.mono t d v h
theorem DtA.at {K : PySem.W.Frag} {H H' : Hp} {ds : List PyData} {vs : List V} (h : DtA K H vs ds) (t : Tx H H') : DtA K H' vs ds := DtA.mono t ds vs h
theorem Dt.ex {K : PySem.W.Frag} {H H' : Hp} {d : PyData} {v : V} (h : Dt K H v d) (t : Ex H H') : Dt K H' v d := h.at (Tx.of t)
theorem DtA.ex {K : PySem.W.Frag} {H H' : Hp} {ds : List PyData} {vs : List V} (h : DtA K H vs ds) (t : Ex H H') : DtA K H' vs ds := h.at (Tx.of t)
theorem DtA.len {K : PySem.W.Frag} {H : Hp} : ∀ {vs : List V} {ds : List PyData}, DtA K H vs ds → vs.length = ds.length
  | _, _, .nil => rfl
  | _, _, .cons _ t => congrArg (· + 1) (DtA.len t)
theorem DtA.get {K : PySem.W.Frag} {H : Hp} : ∀ {vs : List V} {ds : List PyData} {i : Nat} {d : PyData}, DtA K H vs ds → ds[i]? = some d → ∃ v, vs[i]? = some v ∧ Dt K H v d
  | _, _, i, d, .nil, h => by simp at h
  | _, _, 0, d, .cons r _, h => by simp at h; subst h; exact ⟨_, rfl, r⟩
  | _, _, i + 1, d, .cons _ t, h => by
    obtain ⟨v, h1, h2⟩ := DtA.get (i := i) t (by simpa using h)
    exact ⟨v, by simpa using h1, h2⟩
theorem DtA.get' {K : PySem.W.Frag} {H : Hp} : ∀ {vs : List V} {ds : List PyData} {i : Nat} {v : V}, DtA K H vs ds → vs[i]? = some v → ∃ d, ds[i]? = some d ∧ Dt K H v d
  | _, _, i, d, .nil, h => by simp at h
  | _, _, 0, d, .cons r _, h => by simp at h; subst h; exact ⟨_, rfl, r⟩
  | _, _, i + 1, d, .cons _ t, h => by
    obtain ⟨v, h1, h2⟩ := DtA.get' (i := i) t (by simpa using h)
    exact ⟨v, by simpa using h1, h2⟩
theorem DtA.append {K : PySem.W.Frag} {H : Hp} : ∀ {vs ws : List V} {ds es : List PyData}, DtA K H vs ds → DtA K H ws es → DtA K H (vs ++ ws) (ds ++ es)
  | _, _, _, _, .nil, h => h
  | _, _, _, _, .cons r t, h => .cons r (DtA.append t h)
theorem DtA.drop {K : PySem.W.Frag} {H : Hp} : ∀ {vs : List V} {ds : List PyData} (n : Nat), DtA K H vs ds → DtA K H (vs.drop n) (ds.drop n)
  | _, _, 0, h => h
  | _, _, _ + 1, .nil => .nil
  | _, _, n + 1, .cons _ t => DtA.drop n t
theorem DtA.take {K : PySem.W.Frag} {H : Hp} : ∀ {vs : List V} {ds : List PyData} (n : Nat), DtA K H vs ds → DtA K H (vs.take n) (ds.take n)
  | _, _, 0, _ => .nil
  | _, _, _ + 1, .nil => .nil
  | _, _, n + 1, .cons r t => .cons r (DtA.take n t)
theorem DtA.cut {K : PySem.W.Frag} {H : Hp} {vs : List V} {ds : List PyData} (h : DtA K H vs ds) (lo hi : Option Int) :
    DtA K H (cutV vs lo hi) ((ds.drop (HT.sIx ds.length 0 lo)).take (HT.sIx ds.length ds.length hi - HT.sIx ds.length 0 lo)) := by
  unfold cutV
  rw [h.len]
  exact (h.drop _).take _
theorem DtA.ints {K : PySem.W.Frag} {H : Hp} : ∀ {vs : List V} {ns : List Int}, DtA K H vs (ns.map .int) → vs = ns.map V.int
  | vs, [], h => by cases h; rfl
  | vs, n :: ns, h => by
    cases h with
    | cons h1 h2 => cases h1; rw [List.map_cons, DtA.ints h2]
theorem DtA.ofInts {K : PySem.W.Frag} {H : Hp} : ∀ (ns : List Int), DtA K H (ns.map V.int) (ns.map .int)
  | [] => .nil
  | n :: ns => .cons (.int n) (DtA.ofInts ns)
theorem DtA.bools {K : PySem.W.Frag} {H : Hp} : ∀ {vs : List V} {ns : List Bool}, DtA K H vs (ns.map .bool) → vs = ns.map V.bl
  | vs, [], h => by cases h; rfl
  | vs, n :: ns, h => by
    cases h with
    | cons h1 h2 => cases h1; rw [List.map_cons, DtA.bools h2]
mutual
theorem Dt.dp {K : PySem.W.Frag} {H : Hp} : ∀ (d : PyData) (v : V), Dt K H v d → Dp K H v d
  | .none, _, h => by cases h; exact .non
  | .bool b, _, h => by cases h; exact .bl b
  | .int i, _, h => by cases h; exact .int i
  | .str x, _, h => by cases h; exact .str x
  | .tuple ds, _, h => by
    cases h with
    | tup hs ha => exact .tup hs (DtA.dp ds _ ha)
  | .list ds, _, h => by cases h
  | .dict ds, _, h => by cases h
theorem DtA.dp {K : PySem.W.Frag} {H : Hp} : ∀ (ds : List PyData) (vs : List V), DtA K H vs ds → DpAll K H vs ds
  | [], _, h => by cases h; exact .nil
  | d :: ds, _, h => by
    cases h with
    | cons h1 h2 => exact .cons (Dt.dp d _ h1) (DtA.dp ds _ h2)
end

/-! ### what evaluates to what -/
def Ed (K : PySem.W.Frag) (te : TE) (σ : L2.St) (H : Hp) (d : PyData) : Prop := ∀ H1, Tx H H1 → ∀ Q : VK, (∀ v H2, Ex H1 H2 → Dt K H2 v d → Q v H2) → te σ H1 Q
/-- a new list -/
def El (K : PySem.W.Frag) (te : TE) (σ : L2.St) (H : Hp) (ds : List PyData) : Prop :=
  ∀ H1, Tx H H1 → ∀ Q : VK, (∀ p xs H2, H1 p = none → Ex H1 H2 → H2 p = some (.lst xs) → DtA K H2 xs ds → Q (.ref p) H2) → te σ H1 Q
def Eb (tt : TT) (σ : L2.St) (H : Hp) (b : Bool) : Prop := ∀ H1, Tx H H1 → ∀ Q : Bool → Hp → Prop, (∀ H2, Ex H1 H2 → Q b H2) → tt σ H1 Q
def Ea (K : PySem.W.Frag) (ta : TA) (σ : L2.St) (H : Hp) (ds : List PyData) : Prop := ∀ H1, Tx H H1 → ∀ Q : List V → Hp → Prop, (∀ vs H2, Ex H1 H2 → DtA K H2 vs ds → Q vs H2) → ta σ H1 Q
def Eo (to : TO) (σ : L2.St) (H : Hp) (o : Option Int) : Prop := ∀ H1, Tx H H1 → ∀ Q : Option Int → Hp → Prop, (∀ H2, Ex H1 H2 → Q o H2) → to σ H1 Q

section
variable {K : PySem.W.Frag} {σ : L2.St} {H H' : Hp} {ta tb te tx : TE} {t u : TT} {x y z d : PyData} {v : V} {r : R2} {ds es : List PyData}
theorem Ed.at (h : Ed K te σ H d) (e : Tx H H') : Ed K te σ H' d := fun H1 a Q q => h H1 (e.trans a) Q q
theorem Eb.at {b : Bool} (h : Eb t σ H b) (e : Tx H H') : Eb t σ H' b := fun H1 a Q q => h H1 (e.trans a) Q q
theorem Ea.at {ta : TA} (h : Ea K ta σ H ds) (e : Tx H H') : Ea K ta σ H' ds := fun H1 a Q q => h H1 (e.trans a) Q q
theorem El.at (h : El K te σ H ds) (e : Tx H H') : El K te σ H' ds := fun H1 a Q q => h H1 (e.trans a) Q q
theorem ed_is (h : Ed K te σ H d) (e : d = x) : Ed K te σ H x := e ▸ h
theorem eb_is {b c : Bool} (h : Eb t σ H b) (e : b = c) : Eb t σ H c := e ▸ h
theorem el_is (h : El K te σ H ds) (e : ds = es) : El K te σ H es := e ▸ h
theorem ed_var {i : Nat} (h : σ[i]? = some (some v)) (hd : Dt K H v d) : Ed K (tVar i) σ H d := fun H1 t _ q => ⟨v, h, q v H1 (Ex.refl H1) (hd.at t)⟩
theorem ed_c (hd : ∀ H, Dt K H v d) : Ed K (tC v) σ H d := fun H1 _ _ q => q v H1 (Ex.refl H1) (hd H1)
theorem ed_int {i : Int} : Ed K (tC (.int i)) σ H (.int i) := ed_c fun _ => .int i
theorem ed_str {i : Str} : Ed K (tC (.str i)) σ H (.str i) := ed_c fun _ => .str i
theorem ed_bl {i : Bool} : Ed K (tC (.bl i)) σ H (.bool i) := ed_c fun _ => .bl i
theorem ed_non : Ed K (tC .non) σ H .none := ed_c fun _ => .non

/-- two values, then an operation on them -/
theorem ed_op (ha : Ed K ta σ H x) (hb : Ed K tb σ H y) (hr : ∀ v u H1, Tx H H1 → Dt K H1 v x → Dt K H1 u y → ∀ Q : VK, (∀ z H2, Ex H1 H2 → Dt K H2 z d → Q z H2) → r v u H1 Q) : Ed K (tOp r ta tb) σ H d := fun H1 e Q q =>
  ha H1 e _ fun v H2 e2 k2 => hb H2 (e.trans (.of e2)) _ fun u H3 e3 k3 =>
    hr v u H3 ((e.trans (.of e2)).trans (.of e3)) (k2.ex e3) k3 Q fun z H4 e4 k4 => q z H4 ((e2.trans e3).trans e4) k4
theorem ed_I0 {g : Int → Int → V} {f : Int → Int → PyData} {i j : Int} (hg : ∀ H, Dt K H (g i j) (f i j)) (ha : Ed K ta σ H (.int i)) (hb : Ed K tb σ H (.int j)) : Ed K (tOp (rI0 g) ta tb) σ H (f i j) :=
  ed_op ha hb fun v u H1 _ hv hu Q q => by
    cases hv; cases hu
    exact ⟨i, j, rfl, rfl, q _ H1 (Ex.refl H1) (hg H1)⟩
theorem ed_I {C : Int → Int → Prop} {g : Int → Int → V} {f : Int → Int → PyData} {i j : Int} (hg : ∀ H, Dt K H (g i j) (f i j)) (ha : Ed K ta σ H (.int i)) (hb : Ed K tb σ H (.int j)) (hc : C i j) : Ed K (tOp (rI C g) ta tb) σ H (f i j) :=
  ed_op ha hb fun v u H1 _ hv hu Q q => by
    cases hv; cases hu
    exact ⟨i, j, rfl, rfl, hc, q _ H1 (Ex.refl H1) (hg H1)⟩
abbrev rPlus : R2 := rI0 fun i j => .int (i + j)
abbrev rMinus : R2 := rI0 fun i j => .int (i - j)
abbrev rTimes : R2 := rI CMul fun i j => .int (i * j)
abbrev rFdiv : R2 := rI CDiv fun i j => .int (i / j)
abbrev rMod : R2 := rI (fun _ j => 0 < j) fun i j => .int (i % j)
abbrev rPow : R2 := rI CPow fun i j => .int (i ^ j.toNat)
abbrev rLtI : R2 := rI0 fun i j => .bl (decide (i < j))
abbrev rLeI : R2 := rI0 fun i j => .bl (decide (i ≤ j))
abbrev rGtI : R2 := rI0 fun i j => .bl (decide (j < i))
abbrev rGeI : R2 := rI0 fun i j => .bl (decide (j ≤ i))
theorem ed_add {i j : Int} (ha : Ed K ta σ H (.int i)) (hb : Ed K tb σ H (.int j)) : Ed K (tOp rPlus ta tb) σ H (.int (i + j)) := ed_I0 (f := fun i j => .int (i + j)) (fun _ => .int _) ha hb
theorem ed_sub {i j : Int} (ha : Ed K ta σ H (.int i)) (hb : Ed K tb σ H (.int j)) : Ed K (tOp rMinus ta tb) σ H (.int (i - j)) := ed_I0 (f := fun i j => .int (i - j)) (fun _ => .int _) ha hb
theorem ed_mul {i j : Int} (ha : Ed K ta σ H (.int i)) (hb : Ed K tb σ H (.int j)) (hc : CMul i j) : Ed K (tOp rTimes ta tb) σ H (.int (i * j)) := ed_I (f := fun i j => .int (i * j)) (fun _ => .int _) ha hb hc
theorem ed_fdiv {i j : Int} (ha : Ed K ta σ H (.int i)) (hb : Ed K tb σ H (.int j)) (hc : CDiv i j) : Ed K (tOp rFdiv ta tb) σ H (.int (i / j)) := ed_I (f := fun i j => .int (i / j)) (fun _ => .int _) ha hb hc
theorem ed_mod {i j : Int} (ha : Ed K ta σ H (.int i)) (hb : Ed K tb σ H (.int j)) (hc : 0 < j) : Ed K (tOp rMod ta tb) σ H (.int (i % j)) := ed_I (f := fun i j => .int (i % j)) (fun _ => .int _) ha hb hc
theorem ed_pow {i j : Int} (ha : Ed K ta σ H (.int i)) (hb : Ed K tb σ H (.int j)) (hc : CPow i j) : Ed K (tOp rPow ta tb) σ H (.int (i ^ j.toNat)) := ed_I (f := fun i j => .int (i ^ j.toNat)) (fun _ => .int _) ha hb hc
theorem ed_lt {i j : Int} (ha : Ed K ta σ H (.int i)) (hb : Ed K tb σ H (.int j)) : Ed K (tOp rLtI ta tb) σ H (.bool (decide (i < j))) := ed_I0 (f := fun i j => .bool (decide (i < j))) (fun _ => .bl _) ha hb
theorem ed_le {i j : Int} (ha : Ed K ta σ H (.int i)) (hb : Ed K tb σ H (.int j)) : Ed K (tOp rLeI ta tb) σ H (.bool (decide (i ≤ j))) := ed_I0 (f := fun i j => .bool (decide (i ≤ j))) (fun _ => .bl _) ha hb
theorem ed_gt {i j : Int} (ha : Ed K ta σ H (.int i)) (hb : Ed K tb σ H (.int j)) : Ed K (tOp rGtI ta tb) σ H (.bool (decide (j < i))) := ed_I0 (f := fun i j => .bool (decide (j < i))) (fun _ => .bl _) ha hb
theorem ed_ge {i j : Int} (ha : Ed K ta σ H (.int i)) (hb : Ed K tb σ H (.int j)) : Ed K (tOp rGeI ta tb) σ H (.bool (decide (j ≤ i))) := ed_I0 (f := fun i j => .bool (decide (j ≤ i))) (fun _ => .bl _) ha hb
theorem ed_eqI {i j : Int} (ha : Ed K ta σ H (.int i)) (hb : Ed K tb σ H (.int j)) : Ed K (tOp rEq ta tb) σ H (.bool (decide (i = j))) :=
  ed_op ha hb fun v u H1 _ hv hu Q q => by
    cases hv; cases hu
    refine ⟨rfl, ?_⟩
    rw [show decide (V.int i = V.int j) = decide (i = j) by simp]
    exact q _ H1 (Ex.refl H1) (.bl _)
theorem ed_neI {i j : Int} (ha : Ed K ta σ H (.int i)) (hb : Ed K tb σ H (.int j)) : Ed K (tOp rNe ta tb) σ H (.bool (!decide (i = j))) :=
  ed_op ha hb fun v u H1 _ hv hu Q q => by
    cases hv; cases hu
    refine ⟨rfl, ?_⟩
    rw [show decide (V.int i = V.int j) = decide (i = j) by simp]
    exact q _ H1 (Ex.refl H1) (.bl _)
theorem ed_neB {i j : Bool} (ha : Ed K ta σ H (.bool i)) (hb : Ed K tb σ H (.bool j)) : Ed K (tOp rNe ta tb) σ H (.bool (!decide (i = j))) :=
  ed_op ha hb fun v u H1 _ hv hu Q q => by
    cases hv; cases hu
    refine ⟨rfl, ?_⟩
    rw [show decide (V.bl i = V.bl j) = decide (i = j) by simp]
    exact q _ H1 (Ex.refl H1) (.bl _)
theorem ed_eqS {i j : Str} (ha : Ed K ta σ H (.str i)) (hb : Ed K tb σ H (.str j)) : Ed K (tOp rEq ta tb) σ H (.bool (decide (i = j))) :=
  ed_op ha hb fun v u H1 _ hv hu Q q => by
    cases hv; cases hu
    refine ⟨rfl, ?_⟩
    rw [show decide (V.str i = V.str j) = decide (i = j) by simp]
    exact q _ H1 (Ex.refl H1) (.bl _)
theorem ed_neS {i j : Str} (ha : Ed K ta σ H (.str i)) (hb : Ed K tb σ H (.str j)) : Ed K (tOp rNe ta tb) σ H (.bool (!decide (i = j))) :=
  ed_op ha hb fun v u H1 _ hv hu Q q => by
    cases hv; cases hu
    refine ⟨rfl, ?_⟩
    rw [show decide (V.str i = V.str j) = decide (i = j) by simp]
    exact q _ H1 (Ex.refl H1) (.bl _)
/-- == of data at any depth -/
theorem ed_eqD (ha : Ed K ta σ H x) (hb : Ed K tb σ H y) (hx : SeqAt.shaped x = true) (hy : SeqAt.shaped y = true) : Ed K (tOp (rEqD K) ta tb) σ H (.bool (PyData.eqv x y)) :=
  ed_op ha hb fun v u H1 _ hv hu Q q => ⟨x, y, Dt.dp _ _ hv, Dt.dp _ _ hu, hx, hy, q _ H1 (Ex.refl H1) (.bl _)⟩
theorem ed_neD (ha : Ed K ta σ H x) (hb : Ed K tb σ H y) (hx : SeqAt.shaped x = true) (hy : SeqAt.shaped y = true) : Ed K (tOp (rNeD K) ta tb) σ H (.bool (!PyData.eqv x y)) :=
  ed_op ha hb fun v u H1 _ hv hu Q q => ⟨x, y, Dt.dp _ _ hv, Dt.dp _ _ hu, hx, hy, q _ H1 (Ex.refl H1) (.bl _)⟩
def isNo : PyData → Bool
  | .none => true
  | _ => false
theorem Dt.isNo (h : Dt K H v d) : decide (v = .non) = isNo d := by cases h <;> rfl
abbrev rIsNo : R2 := fun x y H Q => y = .non ∧ Q (.bl (decide (x = .non))) H
abbrev rNotNo : R2 := fun x y H Q => y = .non ∧ Q (.bl (!decide (x = .non))) H
theorem ed_isN (ha : Ed K ta σ H x) : Ed K (tOp rIsNo ta (tC .non)) σ H (.bool (isNo x)) :=
  ed_op (y := .none) ha ed_non fun v u H1 _ hv hu Q q => by
    cases hu
    refine ⟨rfl, ?_⟩
    rw [hv.isNo]
    exact q _ H1 (Ex.refl H1) (.bl _)
theorem ed_notN (ha : Ed K ta σ H x) : Ed K (tOp rNotNo ta (tC .non)) σ H (.bool (!isNo x)) :=
  ed_op (y := .none) ha ed_non fun v u H1 _ hv hu Q q => by
    cases hu
    refine ⟨rfl, ?_⟩
    rw [hv.isNo]
    exact q _ H1 (Ex.refl H1) (.bl _)
theorem ed_neg {i : Int} (ha : Ed K ta σ H (.int i)) : Ed K (tUn (rU fun i => .int (-i)) ta) σ H (.int (-i)) := fun H1 e Q q =>
  ha H1 e _ fun v H2 e2 k2 => by
    cases k2
    exact ⟨i, rfl, q _ H2 e2 (.int _)⟩
/-- t[i] -/
theorem ed_ix {i : Int} (ha : Ed K ta σ H (.tuple ds)) (hb : Ed K tb σ H (.int i)) (h : atI ds i = some d) : Ed K (tOp (rIxT K) ta tb) σ H d :=
  ed_op ha hb fun v u H1 _ hv hu Q q => by
    cases hu
    cases hv with
    | @tup a xs _ hs hA =>
      obtain ⟨j, h1, h2, h3, h4, h5⟩ := atI_get h
      obtain ⟨w, hw, kw⟩ := hA.get h2
      refine ⟨_, _, i, w, rfl, rfl, hs, ?_, q w H1 (Ex.refl H1) kw⟩
      unfold atI at h ⊢
      rw [hA.len]
      cases e : ixN ds.length i with
      | none => rw [e] at h; cases h
      | some j' =>
        obtain ⟨g1, g2, g3, g4⟩ := ixN_seq e
        have ej : j' = j := Option.some.inj (g1.symm.trans h1)
        show xs[j']? = some w
        rw [ej]
        exact hw
theorem at_nat {α : Type} {xs : List α} {j : Nat} {v : α} (h : xs[j]? = some v) {i : Int} (e : i = (j : Int)) : atI xs i = some v := by
  rw [e]
  exact atI_nat h

/-! ### tests -/
theorem eb_val {b : Bool} (h : Ed K te σ H (.bool b)) : Eb (tTest te) σ H b := fun H1 e _ q => h H1 e _ fun v H2 e2 k => by
  cases k
  exact ⟨b, rfl, q H2 e2⟩
theorem eb_B {b : Bool} (h : Ed K te σ H (.bool b)) : Eb (tB te) σ H b := fun H1 e _ q => h H1 e _ fun v H2 e2 k => by
  cases k
  exact ⟨b, rfl, q H2 e2⟩
theorem eb_and {a b : Bool} (h1 : Eb t σ H a) (h2 : a = true → Eb u σ H b) : Eb (tAnd t u) σ H (a && b) := fun H1 e Q q => h1 H1 e _ fun H2 e2 => by
  cases a with
  | true =>
    show u σ H2 Q
    exact h2 rfl H2 (e.trans (.of e2)) Q fun H3 e3 => q H3 (e2.trans e3)
  | false =>
    show Q false H2
    exact q H2 e2
theorem eb_or {a b : Bool} (h1 : Eb t σ H a) (h2 : a = false → Eb u σ H b) : Eb (tOr t u) σ H (a || b) := fun H1 e Q q => h1 H1 e _ fun H2 e2 => by
  cases a with
  | true =>
    show Q true H2
    exact q H2 e2
  | false =>
    show u σ H2 Q
    exact h2 rfl H2 (e.trans (.of e2)) Q fun H3 e3 => q H3 (e2.trans e3)
theorem eb_not {a : Bool} (h1 : Eb t σ H a) : Eb (tNot t) σ H (!a) := fun H1 e _ q => h1 H1 e _ fun H2 e2 => q H2 e2
theorem eb_yes : Eb tYes σ H true := fun H1 _ _ q => q H1 (Ex.refl H1)
theorem ed_and {a : Bool} (h1 : Ed K ta σ H (.bool a)) (h2 : a = true → Ed K tb σ H d) (h3 : a = false → d = .bool false) : Ed K (tAndV ta tb) σ H d := fun H1 e Q q => h1 H1 e _ fun v H2 e2 k => by
  cases k
  refine ⟨a, rfl, ?_⟩
  cases a with
  | true =>
    show tb σ H2 Q
    exact h2 rfl H2 (e.trans (.of e2)) Q fun v H3 e3 k3 => q v H3 (e2.trans e3) k3
  | false =>
    show Q (.bl false) H2
    exact q _ H2 e2 (by rw [h3 rfl]; exact .bl false)
theorem ed_andB {a b : Bool} (h1 : Ed K ta σ H (.bool a)) (h2 : a = true → Ed K tb σ H (.bool b)) : Ed K (tAndV ta tb) σ H (.bool (a && b)) := by
  cases a with
  | true => exact ed_and h1 (fun _ => h2 rfl) fun e => nomatch e
  | false => exact ed_and h1 (fun e => nomatch e) fun _ => rfl
theorem ed_orB {a b : Bool} (h1 : Ed K ta σ H (.bool a)) (h2 : a = false → Ed K tb σ H (.bool b)) : Ed K (tOrV ta tb) σ H (.bool (a || b)) := fun H1 e Q q => h1 H1 e _ fun v H2 e2 k => by
  cases k
  refine ⟨a, rfl, ?_⟩
  cases a with
  | true =>
    show Q (.bl true) H2
    exact q _ H2 e2 (.bl true)
  | false =>
    show tb σ H2 Q
    exact h2 rfl H2 (e.trans (.of e2)) Q fun v H3 e3 k3 => q v H3 (e2.trans e3) k3
theorem ed_notB {a : Bool} (h1 : Ed K ta σ H (.bool a)) : Ed K (tNotV ta) σ H (.bool (!a)) := fun H1 e _ q => h1 H1 e _ fun v H2 e2 k => by
  cases k
  exact ⟨a, rfl, q _ H2 e2 (.bl _)⟩
theorem ed_if {b : Bool} (h : Eb t σ H b) (h1 : b = true → Ed K ta σ H d) (h2 : b = false → Ed K tb σ H d) : Ed K (tIf t ta tb) σ H d := fun H1 e Q q => h H1 e _ fun H2 e2 => by
  cases b with
  | true =>
    show ta σ H2 Q
    exact h1 rfl H2 (e.trans (.of e2)) Q fun v H3 e3 k => q v H3 (e2.trans e3) k
  | false =>
    show tb σ H2 Q
    exact h2 rfl H2 (e.trans (.of e2)) Q fun v H3 e3 k => q v H3 (e2.trans e3) k
/-- a <= b <= c -/
theorem ed_chainLe {i j k : Int} (ha : Ed K ta σ H (.int i)) (hb : Ed K tb σ H (.int j)) (hc : Ed K te σ H (.int k)) : Ed K (tChain rLeI rLeI ta tb te) σ H (.bool (decide (i ≤ j) && decide (j ≤ k))) := fun H1 e Q q =>
  ha H1 e _ fun v H2 e2 k2 => hb H2 (e.trans (.of e2)) _ fun u H3 e3 k3 => by
    cases k2; cases k3
    refine ⟨i, j, rfl, rfl, decide (i ≤ j), rfl, ?_⟩
    by_cases h : i ≤ j
    · rw [decide_eq_true h]
      rw [decide_eq_true h] at q
      show te σ H3 _
      refine hc H3 ((e.trans (.of e2)).trans (.of e3)) _ fun w H4 e4 k4 => ?_
      cases k4
      exact ⟨j, k, rfl, rfl, q _ H4 ((e2.trans e3).trans e4) (.bl _)⟩
    · rw [decide_eq_false h]
      rw [decide_eq_false h] at q
      exact q _ H3 (e2.trans e3) (.bl _)

/-! ### arguments, displays, calls -/
theorem ea_nil : Ea K tNil σ H [] := fun H1 _ _ q => q [] H1 (Ex.refl H1) .nil
theorem ea_cons {tr : TA} (h : Ed K te σ H d) (hr : Ea K tr σ H ds) : Ea K (tCons te tr) σ H (d :: ds) := fun H1 e _ q =>
  h H1 e _ fun v H2 e2 k => hr H2 (e.trans (.of e2)) _ fun vs H3 e3 ks => q _ H3 (e2.trans e3) (.cons (k.ex e3) ks)
theorem ed_tup {ta : TA} (h : Ea K ta σ H ds) (hl : ds.length ≤ 1000 := by exact Nat.le_of_ble_eq_true rfl) : Ed K (tTup ta) σ H (.tuple ds) := fun H1 e _ q =>
  h H1 e _ fun vs H2 e2 ks => ⟨sz_of (by rw [ks.len]; omega), fun p hp => q _ _ (e2.trans (Ex.new hp)) (.tup (st_of upd_same) (ks.ex (Ex.new hp)))⟩
theorem el_lst {ta : TA} (h : Ea K ta σ H ds) (hl : ds.length ≤ 1000 := by exact Nat.le_of_ble_eq_true rfl) : El K (tLst ta) σ H ds := fun H1 e _ q =>
  h H1 e _ fun vs H2 e2 ks => ⟨sz_of (by rw [ks.len]; omega), fun p hp => q p vs _ (fresh_back e2 hp) (e2.trans (Ex.new hp)) upd_same (ks.ex (Ex.new hp))⟩
/-- a new list's item -/
theorem ed_ixL {i : Int} (ha : El K ta σ H ds) (hb : Ed K tb σ H (.int i)) (h : atI ds i = some d) : Ed K (tOp (rIxL K) ta tb) σ H d := fun H1 e Q q =>
  ha H1 e _ fun p xs H2 hp e2 hx kx => hb H2 (e.trans (.of e2)) _ fun u H3 e3 k3 => by
    cases k3
    obtain ⟨j, h1, h2, h3, h4, h5⟩ := atI_get h
    obtain ⟨w, hw, kw⟩ := kx.get h2
    refine ⟨p, xs, i, w, rfl, rfl, sq_of (e3 p _ hx), ?_, q w H3 (e2.trans e3) (kw.ex e3)⟩
    unfold atI at h ⊢
    rw [kx.len]
    cases e : ixN ds.length i with
    | none => rw [e] at h; cases h
    | some j' =>
      obtain ⟨g1, g2, g3, g4⟩ := ixN_seq e
      have ej : j' = j := Option.some.inj (g1.symm.trans h1)
      show xs[j']? = some w
      rw [ej]
      exact hw
/-- a pure def: R its arguments and its answer as data -/
def spP (K : PySem.W.Frag) (R : List PyData → PyData → Prop) : Sp := fun vs H Q _ => ∃ ds d, DtA K H vs ds ∧ R ds d ∧ ∀ v H', Ex H H' → Dt K H' v d → Q v H'
theorem ed_call {R : List PyData → PyData → Prop} {E : XK} {ta : TA} (h : Ea K ta σ H ds) (hR : R ds d) : Ed K (tCall (spP K R) [] E ta) σ H d := fun H1 e Q q =>
  h H1 e _ fun vs H2 e2 ks => ⟨ds, d, by rw [List.append_nil]; exact ks, hR, fun v H3 e3 k => q v H3 (e2.trans e3) k⟩
/-- a built-in by values -/
theorem ed_cb {r : List V → Hp → VK → Prop} {ta : TA} (h : Ea K ta σ H ds) (hr : ∀ vs H1, Tx H H1 → DtA K H1 vs ds → ∀ Q : VK, (∀ z H2, Ex H1 H2 → Dt K H2 z d → Q z H2) → r vs H1 Q) : Ed K (tCB r ta) σ H d := fun H1 e Q q =>
  h H1 e _ fun vs H2 e2 ks => hr vs H2 (e.trans (.of e2)) ks Q fun z H3 e3 k => q z H3 (e2.trans e3) k
abbrev rLenQ (K : PySem.W.Frag) : List V → Hp → VK → Prop := fun xs H Q => ∃ p ys, xs = [.ref p] ∧ (SqL K H p ys ∨ SqT K H p ys) ∧ Q (.int ys.length) H
theorem ed_len (h : Ed K ta σ H (.tuple ds)) : Ed K (tCB (rLenQ K) (tCons ta tNil)) σ H (.int (ds.length : Int)) :=
  ed_cb (ea_cons h ea_nil) fun vs H1 _ ks Q q => by
    cases ks with
    | cons k1 k2 =>
      cases k2
      cases k1 with
      | tup hs hA =>
        refine ⟨_, _, rfl, .inr hs, ?_⟩
        rw [hA.len]
        exact q _ H1 (Ex.refl H1) (.int _)
abbrev rTupQ (K : PySem.W.Frag) : List V → Hp → VK → Prop := fun xs H Q => ∃ p ys, xs = [.ref p] ∧ ((SqL K H p ys ∧ ∀ l, H l = none → Q (.ref l) (upd H l (.tup ys))) ∨ (SqT K H p ys ∧ Q (.ref p) H))
/-- tuple(a new list) -/
theorem ed_tuple (h : El K ta σ H ds) : Ed K (tCB (rTupQ K) (tCons ta tNil)) σ H (.tuple ds) := fun H1 e Q q =>
  h H1 e _ fun p xs H2 hp e2 hx kx => ⟨p, xs, rfl, .inl ⟨sq_of hx, fun l hl => q _ _ (e2.trans (Ex.new hl)) (.tup (st_of upd_same) (kx.ex (Ex.new hl)))⟩⟩
theorem ed_all {bs : List Bool} (h : El K ta σ H (bs.map .bool)) : Ed K (tCB (rAll K) (tCons ta tNil)) σ H (.bool (bs.all id)) := fun H1 e Q q =>
  h H1 e _ fun p xs H2 hp e2 hx kx => ⟨p, bs, rfl, by rw [← kx.bools]; exact sq_of hx, q _ _ e2 (.bl _)⟩
/-- int(a truth) -/
abbrev rIntQ : List V → Hp → VK → Prop := fun xs H Q => (∃ i, xs = [.int i] ∧ Q (.int i) H) ∨ ∃ k, xs = [.bl k] ∧ Q (.int (if k then 1 else 0)) H
theorem ed_intB {b : Bool} (h : Ed K ta σ H (.bool b)) : Ed K (tCB rIntQ (tCons ta tNil)) σ H (.int (if b then 1 else 0)) :=
  ed_cb (ea_cons h ea_nil) fun vs H1 _ ks Q q => by
    cases ks with
    | cons k1 k2 =>
      cases k2
      cases k1
      exact .inr ⟨b, rfl, q _ H1 (Ex.refl H1) (.int _)⟩
abbrev rAbsQ : List V → Hp → VK → Prop := fun xs H Q => ∃ i, xs = [.int i] ∧ Q (.int (if i < 0 then -i else i)) H
theorem ed_abs {i : Int} (h : Ed K ta σ H (.int i)) : Ed K (tCB rAbsQ (tCons ta tNil)) σ H (.int (if i < 0 then -i else i)) :=
  ed_cb (ea_cons h ea_nil) fun vs H1 _ ks Q q => by
    cases ks with
    | cons k1 k2 =>
      cases k2
      cases k1
      exact ⟨i, rfl, q _ H1 (Ex.refl H1) (.int _)⟩
abbrev rMax2Q : List V → Hp → VK → Prop := fun xs H Q => ∃ i j, xs = [.int i, .int j] ∧ Q (.int (if j > i then j else i)) H
abbrev rMin2Q : List V → Hp → VK → Prop := fun xs H Q => ∃ i j, xs = [.int i, .int j] ∧ Q (.int (if j < i then j else i)) H
theorem ed_max2 {i j : Int} (ha : Ed K ta σ H (.int i)) (hb : Ed K tb σ H (.int j)) : Ed K (tCB rMax2Q (tCons ta (tCons tb tNil))) σ H (.int (if j > i then j else i)) :=
  ed_cb (ea_cons ha (ea_cons hb ea_nil)) fun vs H1 _ ks Q q => by
    cases ks with
    | cons k1 k2 =>
      cases k2 with
      | cons k3 k4 =>
        cases k1; cases k3; cases k4
        exact ⟨i, j, rfl, q _ H1 (Ex.refl H1) (.int _)⟩
theorem ed_min2 {i j : Int} (ha : Ed K ta σ H (.int i)) (hb : Ed K tb σ H (.int j)) : Ed K (tCB rMin2Q (tCons ta (tCons tb tNil))) σ H (.int (if j < i then j else i)) :=
  ed_cb (ea_cons ha (ea_cons hb ea_nil)) fun vs H1 _ ks Q q => by
    cases ks with
    | cons k1 k2 =>
      cases k2 with
      | cons k3 k4 =>
        cases k1; cases k3; cases k4
        exact ⟨i, j, rfl, q _ H1 (Ex.refl H1) (.int _)⟩
/-- max, min of a new list of ints -/
theorem ed_maxL {ns : List Int} {m : Int} (h : El K ta σ H (ns.map .int)) (hn : 0 < ns.length) (hm : ∀ k, k ∈ ns → (∀ y, y ∈ ns → y ≤ k) → k = m) : Ed K (tCB (rMax K) (tCons ta tNil)) σ H (.int m) := fun H1 e Q q =>
  h H1 e _ fun p xs H2 hp e2 hx kx => ⟨p, ns, rfl, by rw [← kx.ints]; exact sq_of hx, hn, fun k h1 h2 => q _ _ e2 (by rw [hm k h1 h2]; exact .int _)⟩
end
end Dome
/-! Rules of our own: min, max of three; a dict whose keys are tuples of ints and one tuple of ints. -/
namespace Dome
open PySem PySem.Spec PyProof.Rows L2 Evl

/-! ### max, min of three -/
theorem vals3 {x y z : V} {us : List Value} (r : Vals [x, y, z] us) : ∃ a b c, us = [a, b, c] ∧ RelV x a ∧ RelV y b ∧ RelV z c := by
  cases r with
  | cons r1 r =>
    cases r with
    | cons r2 r =>
      cases r with
      | cons r3 r => cases r; exact ⟨_, _, _, rfl, r1, r2, r3⟩
abbrev rMax3Q : List V → Hp → VK → Prop := fun xs H Q => ∃ i j k, xs = [.int i, .int j, .int k] ∧ Q (.int (max (max i j) k)) H
abbrev rMin3Q : List V → Hp → VK → Prop := fun xs H Q => ∃ i j k, xs = [.int i, .int j, .int k] ∧ Q (.int (min (min i j) k)) H
theorem call_max3 {X : Cx} (hc : X.calm = true) : CallR X (.builtin "max") rMax3Q := by
  intro pins s σ H xs us Q I r h
  obtain ⟨i, j, k, rfl, q⟩ := h
  obtain ⟨_, _, _, rfl, ⟨t1, rfl⟩, ⟨t2, rfl⟩, ⟨t3, rfl⟩⟩ := vals3 r
  refine max_three_ints (I.ok.hd hc) fun h' tk kp => ⟨_, H, I.kept kp, ?_, q⟩
  by_cases h1 : j > i
  · rw [if_pos h1]
    by_cases h2 : k > j
    · rw [if_pos h2, show max (max i j) k = k by omega]; exact ⟨_, rfl⟩
    · rw [if_neg h2, show max (max i j) k = j by omega]; exact ⟨_, rfl⟩
  · rw [if_neg h1]
    by_cases h2 : k > i
    · rw [if_pos h2, show max (max i j) k = k by omega]; exact ⟨_, rfl⟩
    · rw [if_neg h2, show max (max i j) k = i by omega]; exact ⟨_, rfl⟩
theorem call_min3 {X : Cx} (hc : X.calm = true) : CallR X (.builtin "min") rMin3Q := by
  intro pins s σ H xs us Q I r h
  obtain ⟨i, j, k, rfl, q⟩ := h
  obtain ⟨_, _, _, rfl, ⟨t1, rfl⟩, ⟨t2, rfl⟩, ⟨t3, rfl⟩⟩ := vals3 r
  refine min_three_ints (I.ok.hd hc) fun h' tk kp => ⟨_, H, I.kept kp, ?_, q⟩
  by_cases h1 : j < i
  · rw [if_pos h1]
    by_cases h2 : k < j
    · rw [if_pos h2, show min (min i j) k = k by omega]; exact ⟨_, rfl⟩
    · rw [if_neg h2, show min (min i j) k = j by omega]; exact ⟨_, rfl⟩
  · rw [if_neg h1]
    by_cases h2 : k < i
    · rw [if_pos h2, show min (min i j) k = k by omega]; exact ⟨_, rfl⟩
    · rw [if_neg h2, show min (min i j) k = i by omega]; exact ⟨_, rfl⟩
section
variable {K : PySem.W.Frag} {σ : L2.St} {H : Hp} {ta tb te : TE}
theorem ed_max3 {i j k : Int} (ha : Ed K ta σ H (.int i)) (hb : Ed K tb σ H (.int j)) (hc : Ed K te σ H (.int k)) : Ed K (tCB rMax3Q (tCons ta (tCons tb (tCons te tNil)))) σ H (.int (max (max i j) k)) :=
  ed_cb (ea_cons ha (ea_cons hb (ea_cons hc ea_nil))) fun vs H1 _ ks Q q => by
    cases ks with
    | cons k1 ks => cases ks with
      | cons k2 ks => cases ks with
        | cons k3 ks =>
          cases k1; cases k2; cases k3; cases ks
          exact ⟨i, j, k, rfl, q _ H1 (Ex.refl H1) (.int _)⟩
theorem ed_min3 {i j k : Int} (ha : Ed K ta σ H (.int i)) (hb : Ed K tb σ H (.int j)) (hc : Ed K te σ H (.int k)) : Ed K (tCB rMin3Q (tCons ta (tCons tb (tCons te tNil)))) σ H (.int (min (min i j) k)) :=
  ed_cb (ea_cons ha (ea_cons hb (ea_cons hc ea_nil))) fun vs H1 _ ks Q q => by
    cases ks with
    | cons k1 ks => cases ks with
      | cons k2 ks => cases ks with
        | cons k3 ks =>
          cases k1; cases k2; cases k3; cases ks
          exact ⟨i, j, k, rfl, q _ H1 (Ex.refl H1) (.int _)⟩
end

/-! ### a dict whose keys are nested tuples, its values True -/
mutual
theorem nested_of {X : Cx} {pins : List (Addr × Obj)} {σ : L2.St} {H : Hp} {s : Shared} (I : Inv X pins σ H s) : ∀ (k : NestedKey) (v : V) (u : Value), Dt X.K H v k.data → RelV v u → NestedIs s.heap k u
  | .none, _, _, h, r => by
    cases h
    cases r
    exact .none
  | .num i, _, _, h, r => by
    cases h
    obtain ⟨t, rfl⟩ := r
    exact .int i t
  | .text x, _, _, h, r => by
    cases h
    obtain ⟨t, rfl⟩ := r
    exact .text x t
  | .tup ks, _, _, h, r => by
    cases h with
    | tup hs ha =>
      cases r
      obtain ⟨its, rv, ⟨o, ho, hc, n, hd⟩, _⟩ := I.tuple hs
      exact .tup ho hc hd (by simpa using nesteds_of I ks _ _ ha rv)
theorem nesteds_of {X : Cx} {pins : List (Addr × Obj)} {σ : L2.St} {H : Hp} {s : Shared} (I : Inv X pins σ H s) : ∀ (ks : List NestedKey) (vs : List V) (us : List Value), DtA X.K H vs (NestedKey.datas ks) → Vals vs us → NestedAll s.heap ks us
  | [], _, _, h, r => by
    cases h
    cases r
    exact .nil
  | k :: ks, _, _, h, r => by
    cases h with
    | cons h1 h2 =>
      cases r with
      | cons r1 r2 => exact .cons (nested_of I k _ _ h1 r1) (nesteds_of I ks _ _ h2 r2)
end
def entX (P : Program) (w : World) (x : NestedKey × Addr) : NestedKey × Addr × Value := (x.1, x.2, Value.bool true)
def PhiX (P : Program) (w : World) (xs : List (NestedKey × Addr)) (a : Addr) : Heap → Prop := fun h =>
  ∃ o es ep, h.get? a = some o ∧ o.ExactDict ∧ o.data = .dict es ep ∧ es.toList = (xs.map (entX P w)).map (entryOfKey (nestedKind P w)) ∧ ((xs.map (entX P w)).map (·.1)).Nodup
/-- at a stands such a dict, its keys ks in the order of insertion -/
def Dx (P : Program) (w : World) (K : PySem.W.Frag) (H : Hp) (a : Addr) (ks : List NestedKey) : Prop :=
  ∃ xs : List (NestedKey × Addr), H a = some (.ext (PhiX P w xs a)) ∧ (a == sysModules) = false ∧ xs.map (·.1) = ks ∧ (∀ x ∈ xs, Dt K H (.ref x.2) x.1.data ∧ x.1.depth ≤ 8) ∧ xs.length ≤ 1000000
/-- all but a stands -/
def ExB (a : Addr) (H H' : Hp) : Prop := ∀ b o, b ≠ a → H b = some o → H' b = some o
theorem Dx.mono {P : Program} {w : World} {K : PySem.W.Frag} {H H' : Hp} {a : Addr} {ks : List NestedKey} (h : Dx P w K H a ks) (e : Ex H H') : Dx P w K H' a ks := by
  obtain ⟨xs, h1, h2, h3, h4, h5⟩ := h
  exact ⟨xs, e _ _ h1, h2, h3, fun x hx => ⟨(h4 x hx).1.ex e, (h4 x hx).2⟩, h5⟩
theorem Dx.tx {P : Program} {w : World} {K : PySem.W.Frag} {H : Hp} {a : Addr} {ks : List NestedKey} {o : HO} (h : Dx P w K H a ks) : Tx H (upd H a o) := by
  obtain ⟨xs, h1, _⟩ := h
  refine Tx.upd fun ys q => ?_
  rcases q with q | ⟨_, q⟩
  · rw [h1] at q; cases q
  · rw [h1] at q; cases q
theorem ext_ok {P : Program} {w : World} {H : Hp} {h : Heap} {a : Addr} {xs : List (NestedKey × Addr)} (hp : PhiX P w xs a h) : ObjOk P w H h a (.ext (PhiX P w xs a)) := by
  refine ⟨hp, ?_, fun h1 h2 q k => ?_⟩
  · obtain ⟨o, _, _, e, _⟩ := hp
    exact ⟨o, e⟩
  · obtain ⟨o, es, ep, e, c⟩ := q
    exact ⟨o, es, ep, k _ e, c⟩
theorem Dx.ofH {X : Cx} {pins : List (Addr × Obj)} {σ : L2.St} {H : Hp} {s : Shared} {a : Addr} {xs : List (NestedKey × Addr)} (I : Inv X pins σ H s) (h1 : H a = some (.ext (PhiX X.prog X.w xs a)))
    (h4 : ∀ x ∈ xs, Dt X.K H (.ref x.2) x.1.data ∧ x.1.depth ≤ 8) : s.heap.DictOfH (nestedKind X.prog X.w) a (xs.map (entX X.prog X.w)) := by
  obtain ⟨⟨o, es, ep, e, e2, e3, e4, e5⟩, _, _⟩ := I.hok a _ h1
  refine ⟨o, es, ep, e, e2, e3, e4, fun x hx => ?_, e5⟩
  obtain ⟨y, hy, rfl⟩ := List.mem_map.mp hx
  exact ⟨nested_of I _ _ _ (h4 y hy).1 rfl, (h4 y hy).2⟩
theorem at_in {P : Program} {w : World} (k : NestedKey) : ∀ xs : List (NestedKey × Addr), (atKey (xs.map (entX P w)) k).isSome = decide (k ∈ xs.map (·.1))
  | [] => rfl
  | x :: xs => by
    have ih := at_in (P := P) (w := w) k xs
    unfold atKey at ih ⊢
    by_cases h : x.1 = k
    · simp [entX, h]
    · have h' : ¬ k = x.1 := fun e => h e.symm
      simp only [List.map_cons, List.find?_cons, entX, h, decide_false, List.mem_cons, h', false_or]
      exact ih
/-- k in d -/
def rInX (P : Program) (w : World) (K : PySem.W.Frag) : R2 := fun x y H Q => ∃ a b ks k, x = .ref b ∧ y = .ref a ∧ Dx P w K H a ks ∧ Dt K H (.ref b) (NestedKey.data k) ∧ k.depth ≤ 8 ∧ Q (.bl (decide (k ∈ ks))) H
theorem op_inX {X : Cx} (hu : X.A.units + 64 < cLine) : OpR X (compareOp .In) (rInX X.prog X.w X.K) := by
  intro pins s σ H x y v u Q I rx ry h
  obtain ⟨a, b, ks, k, rfl, rfl, ⟨xs, h1, h2, h3, h4, h5⟩, hk, hd, q⟩ := h
  cases rx
  cases ry
  have hm := Dx.ofH I h1 h4
  refine wpAny_in_heap (knd := nestedKind X.prog X.w) (k := k) (by show X.A.units + 1 + 8 < cLine; omega) ⟨nested_of I _ _ _ hk rfl, hd⟩ h2 hm ?_
  rw [at_in, h3]
  exact ⟨.bl _, H, I.tok _, rfl, q⟩
def addX (ks : List NestedKey) (k : NestedKey) : List NestedKey := if k ∈ ks then ks else ks ++ [k]
/-- d[k] = True -/
def rSetX (P : Program) (w : World) (K : PySem.W.Frag) : V → V → V → Hp → (Hp → Prop) → Prop := fun o i v H Q => ∃ a b ks k, o = .ref a ∧ i = .ref b ∧ v = .bl true ∧ Dx P w K H a ks ∧ Dt K H (.ref b) (NestedKey.data k) ∧ k.depth ≤ 8 ∧ ks.length < 1000000 ∧
  ∀ H', Dx P w K H' a (addX ks k) → ExB a H H' → Tx H H' → Q H'
theorem stored_ent {P : Program} {w : World} {xs : List (NestedKey × Addr)} {k : NestedKey} {b : Addr} :
    storedH (xs.map (entX P w)) k b (Value.bool true) = (if k ∈ xs.map (·.1) then xs else xs ++ [(k, b)]).map (entX P w) := by
  unfold storedH
  rw [at_in]
  by_cases h : k ∈ xs.map (·.1)
  · rw [decide_eq_true h, if_pos rfl, if_pos h, List.map_map]
    refine List.map_congr_left fun x _ => ?_
    unfold putAt entX
    dsimp only [Function.comp]
    split
    · rfl
    · rfl
  · rw [decide_eq_false h, if_neg Bool.false_ne_true, if_neg h, List.map_append]
    rfl
theorem set_X {X : Cx} (hu : X.A.units + 64 < cLine) : PSet X (rSetX X.prog X.w X.K) := by
  intro pins s σ H o i v ov iv u Q I ro ri rv h
  obtain ⟨a, b, ks, k, rfl, rfl, rfl, ⟨xs, h1, h2, h3, h4, h5⟩, hk, hd, hl, q⟩ := h
  cases ro
  cases ri
  cases rv
  have hm := Dx.ofH I h1 h4
  have hz : xs.length < 1000000 := by
    have e := congrArg List.length h3
    rw [List.length_map] at e
    omega
  have hz2 : (xs.map (entX X.prog X.w)).length ≤ sizeLine := by rw [List.length_map, sizeLine_eq]; omega
  refine wpAny_setItem_heap (knd := nestedKind X.prog X.w) (k := k) (hsz := hz2) (by show X.A.units + 1 + 8 < cLine; omega) ⟨nested_of I _ _ _ hk rfl, hd⟩ hm fun h' hm' hs => ?_
  rw [stored_ent] at hm'
  have hD : Dx X.prog X.w X.K H a ks := ⟨xs, h1, h2, h3, h4, h5⟩
  have phi : PhiX X.prog X.w (if k ∈ xs.map (·.1) then xs else xs ++ [(k, b)]) a h' := by
    obtain ⟨o, es, ep, e1, e2, e3, e4, _, e6⟩ := hm'
    exact ⟨o, es, ep, e1, e2, e3, e4, e6⟩
  refine ⟨upd H a (.ext (PhiX X.prog X.w (if k ∈ xs.map (·.1) then xs else xs ++ [(k, b)]) a)), I.write (x := a) (e := a) (t' := s.toks + _) (by rw [h1]; trivial) (.inl rfl) (fun c u hc e => (hs.2 c hc).trans e) (let ⟨o, _, _, e, _⟩ := phi; ⟨o, e⟩) (ext_ok phi), q _ ?_ (fun c o hc e => by rw [upd_ne hc]; exact e) hD.tx⟩
  refine ⟨_, upd_same, h2, ?_, fun x hx => ?_, ?_⟩
  · unfold addX
    rw [← h3]
    split
    · rfl
    · rw [List.map_append]; rfl
  · have hx' : x ∈ xs ∨ x = (k, b) := by
      split at hx
      · exact .inl hx
      · rcases List.mem_append.mp hx with z | z
        · exact .inl z
        · exact .inr (by simpa using z)
    rcases hx' with z | z
    · exact ⟨(h4 x z).1.at hD.tx, (h4 x z).2⟩
    · rw [z]
      exact ⟨hk.at hD.tx, hd⟩
  · split
    · exact h5
    · rw [List.length_append, List.length_singleton]; omega
/-- {} -/
def tDNewX (P : Program) (w : World) (K : PySem.W.Frag) : TE := fun _ H Q => ∀ p H', H p = none → Ex H H' → Dx P w K H' p [] → Q (.ref p) H'
theorem pe_dnewX {X : Cx} {pos : Pos} : PE X (.Dict [] [] pos) (tDNewX X.prog X.w X.K) := ⟨fun pins s σ H Q I h => by
  have hn : H s.heap.objs.size = none := I.hok.fresh (Nat.le_refl _)
  have hb : (s.heap.objs.size == sysModules) = false := beq_eq_false_iff_ne.mpr (Ne.symm (Nat.ne_of_lt I.big))
  have phi : PhiX X.prog X.w [] s.heap.objs.size (s.heap.push { cls := .type "dict", data := .dict #[] }) := ⟨_, #[], 0, Heap.get?_push_size _ rfl, ⟨rfl, rfl, rfl⟩, rfl, rfl, List.nodup_nil⟩
  exact wpAny_Dict_empty ⟨.ref s.heap.objs.size, _, I.laid (a := s.heap.objs.size) (o := .ext (PhiX X.prog X.w [] s.heap.objs.size)) (t' := s.toks) (fun _ _ q => Heap.get?_push_of_some _ q) (Nat.le_refl _) (ext_ok phi), rfl,
    h _ _ hn (Ex.new hn) ⟨[], upd_same, hb, rfl, fun x hx => absurd hx (by simp), Nat.zero_le _⟩⟩⟩
end Dome
/-! Rules of our own: enumerate over a tuple. -/
namespace Dome
open PySem PySem.Spec PyProof.Rows L2 Evl

theorem meets_enum_tup {v : Value} {o : Obj} {H : Heap → Prop} (B : Begins v o H) :
    Meets (Builtin.«enumerate.__new__» ⟨[.type "enumerate", v], []⟩) (fun _ R s => H s.heap ∧
      R (.ok (.ret (.ref (s.heap.push o).objs.size))) { s with heap := (s.heap.push o).push { cls := .type "enumerate", data := .fields #[.none, .bool false, .ref s.heap.objs.size, rawInt 0, .none, .none] } }) :=
  .of_wp fun prog w A R s h => by
    obtain ⟨hp, g, d, tk, os⟩ := s
    obtain ⟨h1, h⟩ := h
    have hsub := sub_enumerate
    have go : ∀ {A' : Around} {E : Value → Shared → Prop} {Q : Value → Shared → Prop}, Q (.ref hp.objs.size) ⟨hp.push o, g, d, tk, os⟩ → wpAny (model prog w) A' (pyIter v) Q E ⟨hp, g, d, tk, os⟩ :=
      fun q => B.iter prog w _ _ ⟨hp, g, d, tk, os⟩ _ h1 q
    wp_walk using go
    refine wpAny_stack_any fun st => wpAny_pure ?_
    split
    · rename_i c _ _ _ _ _
      cases (c == Value.type "enumerate") <;> (wp_walk using go; exact ⟨_, rfl, h⟩)
    · wp_walk using go
      exact ⟨_, rfl, h⟩
/-- the tuple at a, each item in a new pair with its number -/
def ItE (K : PySem.W.Frag) (a : Addr) : It :=
  ⟨fun i H => ∃ (xs : List V) (x : V), SqT K H a xs ∧ xs[i]? = some x, fun i H v H' => ∃ T x, v = .ref T ∧ H T = none ∧ H' = upd H T (.tup [.int (i : Nat), x]) ∧ ∀ xs, SqT K H a xs → xs[i]? = some x,
    fun i H => ∃ xs : List V, SqT K H a xs ∧ xs.length = i⟩
def TnE (a e it : Addr) (i : Nat) (h : Heap) : Prop := (∃ old, IsEnum h e it ((i : Nat) : Int) old) ∧ h.IsTupleIter it a i ∧ e ≠ it ∧ a ≠ it ∧ e ≠ a
theorem turn_enumT {P : Program} {w : World} {K : PySem.W.Frag} {elts : List Expr} {kk : Nat} {tpos : Pos} (a e it : Addr) :
    Turn P w K (.Tuple elts kk tpos) (ItE K a) [e, it] e (TnE a e it) where
  mem := by simp
  obj := fun i h st b hb => by
    obtain ⟨⟨old, he⟩, ⟨o, ho, hc, hd⟩, _⟩ := st
    rcases (show b = e ∨ b = it by simpa using hb) with z | z
    · subst z; exact ⟨_, he, fun v q => nomatch q⟩
    · subst z; exact ⟨o, ho, fun v q => by rw [hd] at q; cases q⟩
  keep := fun i h h' st k => let ⟨⟨old, he⟩, hi, hne⟩ := st; ⟨⟨old, k e (by simp) _ he⟩, hi.at fun o q => k it (by simp) o q, hne⟩
  item := by
    intro X hP hw hK hc i pins s σ H E I hf st hg
    subst hP hw hK
    obtain ⟨⟨old, he⟩, hit, hne, hai, hea⟩ := st
    obtain ⟨xs, x, hq, hx⟩ := hg
    obtain ⟨its, rv, p, hz⟩ := I.tuple hq
    obtain ⟨u, hu, ru⟩ := rv.get hx
    have hlt : i < its.toArray.size := by simpa using (List.getElem?_eq_some_iff.mp hu).1
    have hel : e < s.heap.objs.size := Heap.lt_size he
    have hil : it < s.heap.objs.size := by obtain ⟨_, q, _⟩ := hit; exact Heap.lt_size q
    have D := Draws.tuple (prog := X.prog) (w := X.w) (A := X.A.in1) (I.ok.hd hc) it a hai its.toArray
    refine wpAny_pyNext_enum_itemC D he ⟨hit, p⟩ hlt hne (by simp [hne, hea]) fun y h' tk hy ho st' hT hsz hk => ?_
    have ey : y = u := by
      have e1 : its.toArray[i]? = some u := by simpa using hu
      exact Option.some.inj (hy.symm.trans e1)
    subst ey
    refine ⟨_, rfl, wpAny_letOwnedTupleGo_enum (s := { s with heap := h', toks := tk + 1 }) ho fun h'' he' sb => ?_⟩
    have hT2 : h''.get? s.heap.objs.size = some { cls := .type "tuple", data := .seq #[.int i tk, y] } := (sb.2 _ (Nat.ne_of_gt hel)).trans hT
    have new : ObjOk X.prog X.w (upd H s.heap.objs.size (.tup [.int (i : Nat), x])) h'' s.heap.objs.size (.tup [.int (i : Nat), x]) :=
      ⟨by show 2 ≤ sizeLine; decide, [.int i tk, y], .cons ⟨_, rfl⟩ (.cons ru .nil), ⟨_, hT2, rfl, _, rfl⟩⟩
    have I1 : Inv X pins σ (upd H s.heap.objs.size (.tup [.int (i : Nat), x])) { s with heap := h'', toks := tk + 1 } :=
      I.turnedNew (ch := [e, it]) (fun b ob hb q => (sb.2 b (fun z => hb (by simp [z]))).trans (hk b ob (fun z => hb (by simp [z])) (fun z => hb (by simp [z])) q)) hf (Nat.le_refl _) new
    refine ⟨.ref s.heap.objs.size, _, I1, rfl, ⟨_, x, rfl, I.hok.fresh (Nat.le_refl _), rfl, fun ys hys => by rw [I.tuple_inj hys hq]; exact hx⟩, ⟨⟨y, ?_⟩, st'.1.at fun o q => (sb.2 it (Ne.symm hne)).trans q, hne, hai, hea⟩, fun b hb => ?_⟩
    · rw [show ((i + 1 : Nat) : Int) = (i : Int) + 1 by omega]
      exact he'
    · have hb' : b < s.heap.objs.size := by
        rcases (show b = e ∨ b = it by simpa using hb) with z | z
        · rw [z]; exact hel
        · rw [z]; exact hil
      rw [upd_ne (Nat.ne_of_lt hb')]
      exact (hf b hb).1
  done := by
    intro X hP hw hK hc i pins s σ H E I hf st hg
    subst hP hw hK
    obtain ⟨⟨old, he⟩, hit, hne, hai, hea⟩ := st
    obtain ⟨xs, hq, hx⟩ := hg
    obtain ⟨its, rv, p, hz⟩ := I.tuple hq
    have hl := rv.length
    have hi : i = its.toArray.size := by rw [List.size_toArray]; omega
    subst hi
    have D := Draws.tuple (prog := X.prog) (w := X.w) (A := X.A.in1) (I.ok.hd hc) it a hai its.toArray
    obtain ⟨f0, f1, f2, f3, f4, f5⟩ := hf it (by simp)
    exact wpAny_pyNext_enum_endD D he ⟨hit, p⟩ fun h' hk => ⟨rfl, I.turned (t' := s.toks) (fun b o hb q => hk b o hb q) f0 f1 f3 f4 f5⟩
  self := fun A i s Q E st h => let ⟨⟨_, he⟩, _⟩ := st; wpAny_pyIter_enum he h
def iEnumT (K : PySem.W.Frag) (ta : TA) : TI := fun σ H R => ta σ H fun vs H1 => ∃ a xs, vs = [.ref a] ∧ SqT K H1 a xs ∧ R (ItE K a) H1
theorem pi_enumT {X : Cx} {e : Expr} {ta : TA} {p pos tpos : Pos} {elts : List Expr} {kk : Nat} (hg : Gl X "enumerate") (hm : X.mg "enumerate" = none) (ha : PA X [e] ta) (hs : starEach [e] X.env = [(false, eval e X.env)] := by rfl) :
    PI X (.Tuple elts kk tpos) (.Call (.Name "enumerate" p) [e] [] pos) (iEnumT X.K ta) := by
  refine ⟨fun pins s σ H R I h => ?_⟩
  refine Call_ (ld_blt I hg hm boot_enumerate (PyProof.Rows.callWith_type1 (thn (ha.run pos pins s σ H _ I h) fun us s1 ⟨vs, H1, I1, r1, q1⟩ => ?_) hs rfl))
  obtain ⟨a, xs, ex, hq, q⟩ := q1
  subst ex
  obtain ⟨u, rfl, ru⟩ := vals1 r1
  cases ru
  obtain ⟨its, rv, p', hz⟩ := I1.tuple hq
  have B := begins_tuple a its.toArray
  have hal : a < s1.heap.objs.size := Heap.lt_size p'.choose_spec.1
  refine callType_new F.called_enumerate (by decide) (F.typeCall_enumerate_1 _) (F.newCall_enumerate_1 _) (fun obj => F.args_object_init_2 obj _) F.entry_enumerate_new
    (meets_enum_tup B) ⟨p', ?_⟩
  generalize ho : ({ cls := .type "tuple_iterator", data := .fields #[.ref a, .int 0 0] } : Obj) = o
  have hz1 : (s1.heap.push o).objs.size = s1.heap.objs.size + 1 := Heap.size_push ..
  show _ ∧ _
  rw [hz1]
  have he : IsEnum ((s1.heap.push o).push { cls := .type "enumerate", data := .fields #[.none, .bool false, .ref s1.heap.objs.size, rawInt 0, .none, .none] }) (s1.heap.objs.size + 1) s1.heap.objs.size 0 .none := by
    have e1 := Heap.get?_push_size (s1.heap.push o) (o := { cls := .type "enumerate", data := .fields #[.none, .bool false, .ref s1.heap.objs.size, rawInt 0, .none, .none] }) rfl
    rw [hz1] at e1
    exact e1
  have hit : ((s1.heap.push o).push { cls := .type "enumerate", data := .fields #[.none, .bool false, .ref s1.heap.objs.size, rawInt 0, .none, .none] }).IsTupleIter s1.heap.objs.size a 0 := by
    subst ho
    exact ⟨_, Heap.get?_push_of_some _ (Heap.get?_push_size _ rfl), rfl, rfl⟩
  refine ⟨⟨_, he, rfl⟩, wpAny_pyIter_enum (s := { s1 with heap := (s1.heap.push o).push { cls := .type "enumerate", data := .fields #[.none, .bool false, .ref s1.heap.objs.size, rawInt 0, .none, .none] } }) he ?_⟩
  have I2 := I1.kept (t' := s1.toks) (h' := (s1.heap.push o).push { cls := .type "enumerate", data := .fields #[.none, .bool false, .ref s1.heap.objs.size, rawInt 0, .none, .none] }) fun b ob x => Heap.get?_push_of_some _ (Heap.get?_push_of_some _ x)
  refine ⟨s1.heap.objs.size + 1, [s1.heap.objs.size + 1, s1.heap.objs.size], _, _, H1, rfl, I2, turn_enumT a (s1.heap.objs.size + 1) s1.heap.objs.size, ⟨⟨.none, he⟩, hit, Nat.succ_ne_self _, Nat.ne_of_lt hal, Nat.ne_of_gt (Nat.lt_succ_of_lt hal)⟩, fun b hb => ?_, q⟩
  have hle : s1.heap.objs.size ≤ b := by
    rcases (show b = s1.heap.objs.size + 1 ∨ b = s1.heap.objs.size by simpa using hb) with z | z
    · rw [z]; exact Nat.le_add_right _ _
    · rw [z]; exact Nat.le_refl _
  exact I1.fpOk hle (I1.hok.fresh hle)
theorem walk_enumT {K : PySem.W.Frag} {a : Addr} {xs : List V} : Walk (ItE K a) xs.length (fun H => SqT K H a xs) (YPair (fun i => some (.int (i : Nat))) (fun i => xs[i]?)) := by
  refine ⟨fun i _ hi q => ⟨xs, xs[i], q, by simp [hi]⟩, fun _ q => ⟨xs, q, rfl⟩, fun i H v H' _ q y => ?_⟩
  obtain ⟨T, x, h1, h2, h3, h4⟩ := y
  exact ⟨T, .int (i : Nat), x, h1, h2, h3, rfl, h4 xs q⟩
end Dome
/-! Rules of our own: zip(t, u, strict=True) over two tuples of one length. -/
namespace Dome
open PySem PySem.Spec PyProof.Rows L2 Evl

/-- the strict zip's record -/
abbrev IsZs (h : Heap) (z TI TO : Addr) (f0 : Value) : Prop :=
  h.get? z = some { cls := .type "zip", dict := none, data := .fields #[f0, .bool false, .bool true, .ref TI, .ref TO], slots := #[] }
section
variable {prog : Program} {w : World} {A : Around} {E : Value → Shared → Prop} {s : Shared}
theorem draw_item {it l : Addr} {i : Nat} {items : Array Value} {x : Value} {Q : Option Value → Shared → Prop} (hit : s.heap.IsTupleIter it l i) (hl : s.heap.IsTuple l items) (hx : items[i]? = some x)
    (hQ : ∀ h', h'.IsTupleIter it l (i + 1) → Heap.SameBut it s.heap h' → Q (some x) { s with heap := h' }) : wpAny (model prog w) A (Builtin.SmallTypes.nextOrEnd (.ref it)) Q E s := by
  unfold Builtin.SmallTypes.nextOrEnd
  exact wpAny_bind (wpAny_attempt (RZ.nextOf_tuple_item hit hl hx fun h' a b => wpAny_pure (hQ h' a b)))
theorem draw_end {it l : Addr} {i : Nat} {items : Array Value} {Q : Option Value → Shared → Prop} (hh : A.handled = none) (hit : s.heap.IsTupleIter it l i) (hl : s.heap.IsTuple l items) (hx : items[i]? = none)
    (hQ : ∀ h', Heap.ExtBut it s.heap h' → Q none { s with heap := h' }) : wpAny (model prog w) A (Builtin.SmallTypes.nextOrEnd (.ref it)) Q E s := by
  unfold Builtin.SmallTypes.nextOrEnd
  refine wpAny_bind (wpAny_attempt (RZ.nextOf_tuple_end hh hit hl hx fun h' e hk he => ?_))
  obtain ⟨o, ho, hc⟩ := he
  refine wpAny_bind (wpAny_isInstance (T := "StopIteration") (b := true) ⟨o, ho, hc⟩ isSubtype_stop ?_)
  exact wpAny_pure (hQ h' hk)
theorem stop_raised {α : Type} {Q : α → Shared → Prop} (hh : A.handled = none) (hE : ∀ h' e, (∀ c o, s.heap.get? c = some o → h'.get? c = some o) → (∃ o, h'.get? e = some o ∧ o.cls = .type "StopIteration") → E (.ref e) { s with heap := h' }) :
    wpAny (model prog w) A (Builtin.SmallTypes.stopIteration (α := α)) Q E s := by
  unfold Builtin.SmallTypes.stopIteration
  refine wpAny_bind ?_
  simp only [newExc, newTuple]
  refine wpAny_bind (wpAny_newObj_type ?_ (by size_fits))
  refine wpAny_bind (m := firstArgMember _ _) (wpAny_of_eq (a := Value.none) (by first | rfl | (simp only [firstArgMember]; rfl)) ?_)
  refine wpAny_newObj_type ?_ (by size_fits)
  simp only [raiseNew]
  refine wpAny_bind (wpAny_handled ?_)
  rw [hh]
  refine wpAny_bind (wpAny_pure (wpAny_throw ?_))
  exact hE _ _ (fun c o q => Heap.get?_push_of_some _ (Heap.get?_push_of_some _ q)) ⟨_, Heap.get?_push_size _ rfl, rfl⟩
theorem zs_item {z TI TO i1 i2 l1 l2 : Addr} {k : Nat} {xs ys : Array Value} {x y a b : Value} {Q : Value → Shared → Prop} (D : ZipApart z TI TO i1 i2 l1 l2)
    (hz : IsZs s.heap z TI TO .none) (hTI : IsPair s.heap TI (.ref i1) (.ref i2)) (hTO : IsPair s.heap TO a b)
    (h1 : s.heap.IsTupleIter i1 l1 k) (h2 : s.heap.IsTupleIter i2 l2 k) (hl1 : s.heap.IsTuple l1 xs) (hl2 : s.heap.IsTuple l2 ys) (hx : xs[k]? = some x) (hy : ys[k]? = some y)
    (hQ : ∀ h', IsZs h' z TI TO (rawInt s.heap.objs.size) → IsPair h' TO x y → h'.IsTupleIter i1 l1 (k + 1) → h'.IsTupleIter i2 l2 (k + 1) → IsPair h' s.heap.objs.size x y → h'.objs.size = s.heap.objs.size + 1 →
      (∀ c o, c ≠ z → c ≠ TO → c ≠ i1 → c ≠ i2 → s.heap.get? c = some o → h'.get? c = some o) → Q (.ref s.heap.objs.size) { s with heap := h' }) :
    wpAny (model prog w) A (Builtin.«zip.__next__» ⟨[.ref z], []⟩) (fun fin s' => ∃ v, fin = .done (.ret v) ∧ Q v s') E s := by
  show wpAny _ _ (field (.ref z) 2 >>= _) _ _ _
  refine wpAny_bind (wpAny_field hz rfl (x := .bool true) rfl ?_)
  show wpAny _ _ (field (.ref z) 3 >>= _) _ _ _
  refine wpAny_bind (wpAny_field hz rfl (x := .ref TI) rfl ?_)
  refine wpAny_bind (wpAny_seqItems hTI rfl ?_)
  show wpAny _ _ (Builtin.SmallTypes.ownedTupleIsFree (.ref z) >>= _) _ _ _
  refine wpAny_bind ?_
  unfold Builtin.SmallTypes.ownedTupleIsFree
  refine wpAny_bind (wpAny_field hz rfl (x := .none) rfl (wpAny_pure ?_))
  simp only [if_true]
  refine wpAny_bind (wpAny_rule ?_)
  refine wpAny_bind (wpAny_field hz rfl (x := .ref TO) rfl ?_)
  refine wpAny_bind (wpAny_setField_rec hz (by simp) fun g1 hz1 s1 => ?_)
  replace hz1 : IsZs g1 z TI TO .ellipsis := hz1
  refine wpAny_bind ?_
  simp only [List.zipIdx_cons, List.zipIdx_nil, List.forIn_cons, List.forIn_nil]
  -- the first
  refine wpAny_bind (wpAny_bind (wpAny_onRaise ?_))
  show wpAny _ _ (Builtin.SmallTypes.nextOrEnd (.ref i1)) _ _ _
  refine draw_item (h1.extBut s1.extBut D.i1z) (hl1.extBut s1.extBut D.l1z) hx fun g2 h1b s2 => ?_
  have hTO2 : IsPair g2 TO a b := s2.extBut _ _ D.TOi1 (s1.extBut _ _ D.TOz hTO)
  refine wpAny_bind (wpAny_seqItems hTO2 rfl ?_)
  refine wpAny_bind (wpAny_updateSeq_pair hTO2 fun g3 hTO3 s3 => ?_)
  replace hTO3 : IsPair g3 TO x b := hTO3
  refine wpAny_bind (wpAny_letGo (wpAny_pure ?_))
  -- the second
  refine wpAny_bind (wpAny_bind (wpAny_onRaise ?_))
  show wpAny _ _ (Builtin.SmallTypes.nextOrEnd (.ref i2)) _ _ _
  refine draw_item (((h2.extBut s1.extBut D.i2z).extBut s2.extBut D.i12.symm).extBut s3.extBut D.TOi2.symm) (((hl2.extBut s1.extBut D.l2z).extBut s2.extBut D.l2i1).extBut s3.extBut D.l2TO) hy fun g4 h2b s4 => ?_
  have hTO4 : IsPair g4 TO x b := s4.extBut _ _ D.TOi2 hTO3
  refine wpAny_bind (wpAny_seqItems hTO4 rfl ?_)
  refine wpAny_bind (wpAny_updateSeq_pair hTO4 fun g5 hTO5 s5 => ?_)
  replace hTO5 : IsPair g5 TO x y := hTO5
  refine wpAny_bind (wpAny_letGo (wpAny_pure (wpAny_pure ?_)))
  -- the pair given out
  refine wpAny_bind (wpAny_seqItems hTO5 rfl ?_)
  refine wpAny_bind (wpAny_newTuple ?_)
  have hsz : g5.objs.size = s.heap.objs.size := by rw [s5.1, s4.1, s3.1, s2.1, s1.1]
  have hz5 : IsZs g5 z TI TO .ellipsis := s5.extBut _ _ D.TOz.symm (s4.extBut _ _ D.i2z.symm (s3.extBut _ _ D.TOz.symm (s2.extBut _ _ D.i1z.symm hz1)))
  have kp : ∀ c o, c ≠ z → c ≠ TO → c ≠ i1 → c ≠ i2 → s.heap.get? c = some o → g5.get? c = some o := fun c o c1 c2 c3 c4 e =>
    s5.extBut _ _ c2 (s4.extBut _ _ c4 (s3.extBut _ _ c2 (s2.extBut _ _ c3 (s1.extBut _ _ c1 e))))
  have h1c : g5.IsTupleIter i1 l1 (k + 1) := ((h1b.extBut s3.extBut D.TOi1.symm).extBut s4.extBut D.i12).extBut s5.extBut D.TOi1.symm
  have h2c : g5.IsTupleIter i2 l2 (k + 1) := h2b.extBut s5.extBut D.TOi2.symm
  have hzlt : z < g5.objs.size := Heap.lt_size hz5
  show wpAny _ _ (Builtin.SmallTypes.ownedTupleHandOut (.ref z) (.ref g5.objs.size) >>= _) _ _ _
  refine wpAny_bind ?_
  unfold Builtin.SmallTypes.ownedTupleHandOut
  have hz6 : IsZs (g5.push { cls := .type "tuple", data := .seq #[x, y] }) z TI TO .ellipsis := Heap.get?_push_of_some _ hz5
  refine wpAny_bind (wpAny_setField_rec hz6 (by simp) fun g7 hz7 s7 => ?_)
  replace hz7 : IsZs g7 z TI TO (rawInt g5.objs.size) := hz7
  refine wpAny_setField_rec hz7 (by simp) fun g8 hz8 s8 => ?_
  replace hz8 : IsZs g8 z TI TO (rawInt g5.objs.size) := hz8
  have up : ∀ c o, c ≠ z → g5.get? c = some o → g8.get? c = some o := fun c o c1 e => s8.extBut _ _ c1 (s7.extBut _ _ c1 (Heap.get?_push_of_some _ e))
  have hT8 : IsPair g8 g5.objs.size x y := s8.extBut _ _ (Nat.ne_of_gt hzlt) (s7.extBut _ _ (Nat.ne_of_gt hzlt) (Heap.get?_push_size _ rfl))
  have sz8 : g8.objs.size = g5.objs.size + 1 := by rw [s8.1, s7.1, Heap.size_push]
  rw [hsz] at hz8 hT8 sz8
  refine wpAny_pure ⟨_, rfl, ?_⟩
  show Q (.ref g5.objs.size) _
  rw [hsz]
  exact hQ g8 hz8 (up _ _ D.TOz hTO5) (h1c.at fun o e => up _ o D.i1z e) (h2c.at fun o e => up _ o D.i2z e) hT8 sz8 fun c o c1 c2 c3 c4 e => up c o c1 (kp c o c1 c2 c3 c4 e)
theorem zs_end {z TI TO i1 i2 l1 l2 : Addr} {k : Nat} {xs ys : Array Value} {a b : Value} {Q : Fin → Shared → Prop} (hh : A.handled = none) (D : ZipApart z TI TO i1 i2 l1 l2)
    (hz : IsZs s.heap z TI TO .none) (hTI : IsPair s.heap TI (.ref i1) (.ref i2)) (hTO : IsPair s.heap TO a b)
    (h1 : s.heap.IsTupleIter i1 l1 k) (h2 : s.heap.IsTupleIter i2 l2 k) (hl1 : s.heap.IsTuple l1 xs) (hl2 : s.heap.IsTuple l2 ys) (hx : xs[k]? = none) (hy : ys[k]? = none)
    (hE : ∀ h' e, (∀ c o, c ≠ z → c ≠ TO → c ≠ i1 → c ≠ i2 → s.heap.get? c = some o → h'.get? c = some o) → (∃ o, h'.get? e = some o ∧ o.cls = .type "StopIteration") → E (.ref e) { s with heap := h' }) :
    wpAny (model prog w) A (Builtin.«zip.__next__» ⟨[.ref z], []⟩) Q E s := by
  unfold Builtin.«zip.__next__»
  k_delta "zipStrictEnd"
  show wpAny _ _ (field (.ref z) 2 >>= _) _ _ _
  refine wpAny_bind (wpAny_field hz rfl (x := .bool true) rfl ?_)
  show wpAny _ _ (field (.ref z) 3 >>= _) _ _ _
  refine wpAny_bind (wpAny_field hz rfl (x := .ref TI) rfl ?_)
  refine wpAny_bind (wpAny_seqItems hTI rfl ?_)
  show wpAny _ _ (Builtin.SmallTypes.ownedTupleIsFree (.ref z) >>= _) _ _ _
  refine wpAny_bind ?_
  unfold Builtin.SmallTypes.ownedTupleIsFree
  refine wpAny_bind (wpAny_field hz rfl (x := .none) rfl (wpAny_pure ?_))
  simp only [if_true]
  refine wpAny_bind (wpAny_rule ?_)
  refine wpAny_bind (wpAny_field hz rfl (x := .ref TO) rfl ?_)
  refine wpAny_bind (wpAny_setField_rec hz (by simp) fun g1 hz1 s1 => ?_)
  replace hz1 : IsZs g1 z TI TO .ellipsis := hz1
  refine wpAny_bind ?_
  simp only [List.zipIdx_cons, List.zipIdx_nil, List.forIn_cons, List.forIn_nil]
  refine wpAny_bind (wpAny_bind (wpAny_onRaise ?_))
  show wpAny _ _ (Builtin.SmallTypes.nextOrEnd (.ref i1)) _ _ _
  refine draw_end hh (h1.extBut s1.extBut D.i1z) (hl1.extBut s1.extBut D.l1z) hx fun g2 s2 => ?_
  have hz2 : IsZs g2 z TI TO .ellipsis := s2 _ _ D.i1z.symm hz1
  refine wpAny_bind (wpAny_setField_rec hz2 (by simp) fun g3 hz3 s3 => ?_)
  have h2c : g3.IsTupleIter i2 l2 k := ((h2.extBut s1.extBut D.i2z).extBut s2 D.i12.symm).extBut s3.extBut D.i2z
  have hl2c : g3.IsTuple l2 ys := ((hl2.extBut s1.extBut D.l2z).extBut s2 D.l2i1).extBut s3.extBut D.l2z
  refine wpAny_bind ?_
  simp only [List.drop_succ_cons, List.drop_zero, List.zipIdx_cons, List.zipIdx_nil, List.forIn_cons, List.forIn_nil]
  rw [if_neg (by decide)]
  refine wpAny_bind (wpAny_bind (wpAny_bind (draw_end hh h2c hl2c hy fun g4 s4 => ?_)))
  simp only [Option.isSome_none, Bool.false_eq_true, if_false]
  refine wpAny_pure (wpAny_pure ?_)
  refine wpAny_bind (wpAny_rule (stop_raised hh fun g5 e k5 he => ?_))
  exact hE g5 e (fun c o c1 c2 c3 c4 q => k5 _ _ (s4 _ _ c4 (s3.extBut _ _ c1 (s2 _ _ c3 (s1.extBut _ _ c1 q))))) he
end

section
variable {prog : Program} {w : World} {A : Around} {E : Value → Shared → Prop} {s : Shared}
theorem pyNext_zs_item {z TI TO i1 i2 l1 l2 : Addr} {k : Nat} {xs ys : Array Value} {x y a b : Value} {Q : Option Value → Shared → Prop} (D : ZipApart z TI TO i1 i2 l1 l2)
    (hz : IsZs s.heap z TI TO .none) (hTI : IsPair s.heap TI (.ref i1) (.ref i2)) (hTO : IsPair s.heap TO a b)
    (h1 : s.heap.IsTupleIter i1 l1 k) (h2 : s.heap.IsTupleIter i2 l2 k) (hl1 : s.heap.IsTuple l1 xs) (hl2 : s.heap.IsTuple l2 ys) (hx : xs[k]? = some x) (hy : ys[k]? = some y)
    (hQ : ∀ h', IsZs h' z TI TO (rawInt s.heap.objs.size) → IsPair h' TO x y → h'.IsTupleIter i1 l1 (k + 1) → h'.IsTupleIter i2 l2 (k + 1) → IsPair h' s.heap.objs.size x y → h'.objs.size = s.heap.objs.size + 1 →
      (∀ c o, c ≠ z → c ≠ TO → c ≠ i1 → c ≠ i2 → s.heap.get? c = some o → h'.get? c = some o) → Q (some (.ref s.heap.objs.size)) { s with heap := h' }) :
    wpAny (model prog w) A (pyNext (.ref z)) Q E s := by
  have hT : s.TypeIs (.ref z) "zip" := ⟨_, hz, rfl⟩
  unfold pyNext
  exact wpAny_bind (wpAny_attempt (wpAny_callSpecial?_slot (name := Str.ofString "__next__") hT F.slot_zip_next
    (wpAny_call_entry F.slot_zip_next hT F.entry_zip_next
      (zs_item D hz hTI hTO h1 h2 hl1 hl2 hx hy fun h' a1 a2 a3 a4 a5 a6 a7 => wpAny_pure (hQ h' a1 a2 a3 a4 a5 a6 a7)) (F.args_zip_next_1 _))))
theorem pyNext_zs_end {z TI TO i1 i2 l1 l2 : Addr} {k : Nat} {xs ys : Array Value} {a b : Value} {Q : Option Value → Shared → Prop} (hh : A.handled = none) (D : ZipApart z TI TO i1 i2 l1 l2)
    (hz : IsZs s.heap z TI TO .none) (hTI : IsPair s.heap TI (.ref i1) (.ref i2)) (hTO : IsPair s.heap TO a b)
    (h1 : s.heap.IsTupleIter i1 l1 k) (h2 : s.heap.IsTupleIter i2 l2 k) (hl1 : s.heap.IsTuple l1 xs) (hl2 : s.heap.IsTuple l2 ys) (hx : xs[k]? = none) (hy : ys[k]? = none)
    (hQ : ∀ h', (∀ c o, c ≠ z → c ≠ TO → c ≠ i1 → c ≠ i2 → s.heap.get? c = some o → h'.get? c = some o) → Q none { s with heap := h' }) : wpAny (model prog w) A (pyNext (.ref z)) Q E s := by
  have hT : s.TypeIs (.ref z) "zip" := ⟨_, hz, rfl⟩
  unfold pyNext
  refine wpAny_bind (wpAny_attempt (wpAny_callSpecial?_slot (name := Str.ofString "__next__") hT F.slot_zip_next
    (wpAny_call_entry F.slot_zip_next hT F.entry_zip_next (zs_end hh D hz hTI hTO h1 h2 hl1 hl2 hx hy fun h' e hk he => ?_) (F.args_zip_next_1 _))))
  obtain ⟨o, ho, hc⟩ := he
  refine wpAny_bind (wpAny_isInstance (T := "StopIteration") (b := true) ⟨o, ho, hc⟩ isSubtype_stop ?_)
  exact wpAny_pure (hQ _ hk)
theorem go_zs {elts : List Expr} {k : Nat} {pos : Pos} {z TI TO T : Addr} {Q : Unit → Shared → Prop} (ho : IsZs s.heap z TI TO (rawInt T))
    (h : ∀ h', IsZs h' z TI TO .none → Heap.SameBut z s.heap h' → Q () { s with heap := h' }) : wpAny (model prog w) A (letOwnedTupleGo (.Tuple elts k pos) (.ref z) (.ref T)) Q E s := by
  unfold letOwnedTupleGo
  refine wpAny_bind (wpAny_load ho ?_)
  show wpAny _ _ (if (["enumerate", "zip", "dict_itemiterator", "dict_reverseitemiterator", "odict_iterator", "itertools.zip_longest", "itertools.pairwise"].contains "zip" && (#[rawInt T, .bool false, .bool true, .ref TI, .ref TO] : Array Value)[0]? == some (rawInt T)) = true then _ else _) Q E s
  rw [if_pos (by simp)]
  refine wpAny_bind (wpAny_rule ?_)
  show wpAny _ _ (setField (.ref z) 0 .none) Q E s
  exact wpAny_setField_rec ho (by simp) fun h' a b => h h' a b
theorem iter_zs {z TI TO : Addr} {f0 : Value} {Q : Value → Shared → Prop} (hz : IsZs s.heap z TI TO f0) (h : Q (.ref z) s) : wpAny (model prog w) A (pyIter (.ref z)) Q E s := by
  have hT : s.TypeIs (.ref z) "zip" := ⟨_, hz, rfl⟩
  refine wpAny_pyIter_slot hT F.slot_zip_iter (wpAny_call_entry F.slot_zip_iter hT F.entry_zip_iter ?_ (F.args_zip_iter_1 _))
  show wpAny _ _ (ret (.ref z)) _ _ s
  exact wpAny_pure ⟨_, rfl, "zip", _, hT, F.slot_zip_next.lookup, h⟩
theorem meets_zs_new (l1 l2 : Addr) (xs ys : Array Value) :
    Meets (Builtin.«zip.__new__» ⟨[.type "zip", .ref l1, .ref l2], [(Str.ofString "strict", .bool true)]⟩) (fun _ R s => s.heap.IsTuple l1 xs ∧ s.heap.IsTuple l2 ys ∧
      R (.ok (.ret (.ref (RZ.zipTH4 s.heap l1 l2).objs.size))) { s with heap := (RZ.zipTH4 s.heap l1 l2).push { cls := .type "zip", data := .fields #[.none, .bool false, .bool true, .ref (RZ.zipTH2 s.heap l1 l2).objs.size, .ref (RZ.zipTH3 s.heap l1 l2).objs.size] } }) :=
  .of_wp fun prog w A R s h => by
    obtain ⟨hp, g, d, tk, os⟩ := s
    obtain ⟨hl1, hl2, h⟩ := h
    have hsub := sub_zip
    have hL1 : Heap.IsTuple (Shared.heap ⟨hp, g, d, tk, os⟩) l1 xs := hl1
    have hL2 : Heap.IsTuple (Shared.heap ⟨hp.push { cls := .type "tuple_iterator", data := .fields #[.ref l1, .int 0 0] }, g, d, tk, os⟩) l2 ys := Heap.IsTuple.push hl2 _
    have hne : (Str.ofString "strict" != ("strict" : Str)) = false := by decide +kernel
    wp_walk using wpAny_pyIter_tuple hL1, wpAny_pyIter_tuple hL2
    exact ⟨_, rfl, h⟩
theorem typeCall_zs (a b c : Value) : checkTypeCall "zip" ⟨[a, b], [(Str.ofString "strict", c)]⟩ = pure () := by kernel_rfl
theorem newCall_zs (a b c : Value) : checkBuiltinCall "zip.__new__" ⟨[.type "zip", a, b], [(Str.ofString "strict", c)]⟩ = pure () := by kernel_rfl
theorem args_init_zs (obj a b c : Value) : argsOk "object.__init__" ⟨[obj, a, b], [(Str.ofString "strict", c)]⟩ := by unfold argsOk; kernel_rfl
theorem call_zs {l1 l2 : Addr} {xs ys : Array Value} {Q : Value → Shared → Prop} (hl1 : s.heap.IsTuple l1 xs) (hl2 : s.heap.IsTuple l2 ys)
    (h : ∀ h', IsZs h' (s.heap.objs.size + 4) (s.heap.objs.size + 2) (s.heap.objs.size + 3) .none → IsPair h' (s.heap.objs.size + 2) (.ref s.heap.objs.size) (.ref (s.heap.objs.size + 1)) →
      IsPair h' (s.heap.objs.size + 3) .none .none → h'.IsTupleIter s.heap.objs.size l1 0 → h'.IsTupleIter (s.heap.objs.size + 1) l2 0 →
      (∀ c o, s.heap.get? c = some o → h'.get? c = some o) → Q (.ref (s.heap.objs.size + 4)) { s with heap := h' }) :
    wpAny (model prog w) A (call (.type "zip") [.ref l1, .ref l2] [(Str.ofString "strict", .bool true)]) Q E s := by
  refine callType_newKw F.called_zip (by decide) (typeCall_zs _ _ _) (newCall_zs _ _ _) (fun obj => args_init_zs obj _ _ _) F.entry_zip_new (meets_zs_new l1 l2 xs ys) ⟨hl1, hl2, ?_⟩
  have z1 : (RZ.zipTH1 s.heap l1).objs.size = s.heap.objs.size + 1 := Heap.size_push ..
  have z2 : (RZ.zipTH2 s.heap l1 l2).objs.size = s.heap.objs.size + 2 := by rw [Heap.size_push, z1]
  have z3 : (RZ.zipTH3 s.heap l1 l2).objs.size = s.heap.objs.size + 3 := by rw [Heap.size_push, z2]
  have z4 : (RZ.zipTH4 s.heap l1 l2).objs.size = s.heap.objs.size + 4 := by rw [Heap.size_push, z3]
  generalize hG : ({ cls := .type "zip", data := .fields #[.none, .bool false, .bool true, .ref (RZ.zipTH2 s.heap l1 l2).objs.size, .ref (RZ.zipTH3 s.heap l1 l2).objs.size] } : Obj) = G
  have g5 : ((RZ.zipTH4 s.heap l1 l2).push G).get? (RZ.zipTH4 s.heap l1 l2).objs.size = some G := Heap.get?_push_size _ (by rw [← hG] <;> rfl)
  have g4 : ((RZ.zipTH4 s.heap l1 l2).push G).get? (RZ.zipTH3 s.heap l1 l2).objs.size = some _ := Heap.get?_push_of_some _ (Heap.get?_push_size _ rfl)
  have g3 : ((RZ.zipTH4 s.heap l1 l2).push G).get? (RZ.zipTH2 s.heap l1 l2).objs.size = some _ := Heap.get?_push_of_some _ (Heap.get?_push_of_some _ (Heap.get?_push_size _ rfl))
  have g2 : ((RZ.zipTH4 s.heap l1 l2).push G).get? (RZ.zipTH1 s.heap l1).objs.size = some _ := Heap.get?_push_of_some _ (Heap.get?_push_of_some _ (Heap.get?_push_of_some _ (Heap.get?_push_size _ rfl)))
  have g1 : ((RZ.zipTH4 s.heap l1 l2).push G).get? s.heap.objs.size = some _ := Heap.get?_push_of_some _ (Heap.get?_push_of_some _ (Heap.get?_push_of_some _ (Heap.get?_push_of_some _ (Heap.get?_push_size _ rfl))))
  show _ ∧ _
  have eG : G = { cls := .type "zip", data := .fields #[.none, .bool false, .bool true, .ref (s.heap.objs.size + 2), .ref (s.heap.objs.size + 3)] } := by rw [← hG, z2, z3]
  rw [z4] at g5
  rw [z1, z2] at g3
  rw [z3] at g4
  rw [z1] at g2
  rw [z4]
  exact ⟨⟨_, g5, by rw [eG]⟩, h _ (g5.trans (congrArg some eG)) g3 g4 ⟨_, g1, rfl, rfl⟩ ⟨_, g2, rfl, rfl⟩ fun c o x =>
    Heap.get?_push_of_some _ (Heap.get?_push_of_some _ (Heap.get?_push_of_some _ (Heap.get?_push_of_some _ (Heap.get?_push_of_some _ x))))⟩
end

/-- two tuples of one length, the items in new pairs -/
def ItS (K : PySem.W.Frag) (a b : Addr) : It :=
  ⟨fun i H => ∃ (xs ys : List V) (x y : V), SqT K H a xs ∧ SqT K H b ys ∧ xs[i]? = some x ∧ ys[i]? = some y,
    fun i H v H' => ∃ T x y, v = .ref T ∧ H T = none ∧ H' = upd H T (.tup [x, y]) ∧ (∀ xs, SqT K H a xs → xs[i]? = some x) ∧ ∀ ys, SqT K H b ys → ys[i]? = some y,
    fun i H => ∃ xs ys : List V, SqT K H a xs ∧ SqT K H b ys ∧ xs.length ≤ i ∧ ys.length ≤ i⟩
theorem turn_zs {P : Program} {w : World} {K : PySem.W.Frag} {elts : List Expr} {kk : Nat} {tpos : Pos} {a b z TI TO i1 i2 : Addr} (D : ZipApart z TI TO i1 i2 a b) :
    Turn P w K (.Tuple elts kk tpos) (ItS K a b) [z, TI, TO, i1, i2] z (fun i h => IsZs h z TI TO .none ∧ IsPair h TI (.ref i1) (.ref i2) ∧ (∃ x y, IsPair h TO x y) ∧ h.IsTupleIter i1 a i ∧ h.IsTupleIter i2 b i) where
  mem := by simp
  obj := fun i h st c hc => by
    obtain ⟨hz, hTI, ⟨x, y, hTO⟩, ⟨o1, e1, _, d1⟩, ⟨o2, e2, _, d2⟩⟩ := st
    rcases (show c = z ∨ c = TI ∨ c = TO ∨ c = i1 ∨ c = i2 by simpa using hc) with q | q | q | q | q
    · rw [q]; exact ⟨_, hz, fun v q => nomatch q⟩
    · rw [q]; exact ⟨_, hTI, fun v q => nomatch q⟩
    · rw [q]; exact ⟨_, hTO, fun v q => nomatch q⟩
    · rw [q]; exact ⟨o1, e1, fun v q => by rw [d1] at q; cases q⟩
    · rw [q]; exact ⟨o2, e2, fun v q => by rw [d2] at q; cases q⟩
  keep := fun i h h' st k => by
    obtain ⟨hz, hTI, ⟨x, y, hTO⟩, h1, h2⟩ := st
    exact ⟨k z (by simp) _ hz, k TI (by simp) _ hTI, ⟨x, y, k TO (by simp) _ hTO⟩, h1.at fun o q => k i1 (by simp) o q, h2.at fun o q => k i2 (by simp) o q⟩
  item := by
    intro X hP hw hK hc i pins s σ H E I hf st hg
    subst hP hw hK
    obtain ⟨hz, hTI, ⟨x0, y0, hTO⟩, h1, h2⟩ := st
    obtain ⟨xs, ys, x, y, hqx, hqy, hx, hy⟩ := hg
    obtain ⟨its, rv, p, _⟩ := I.tuple hqx
    obtain ⟨its2, rv2, p2, _⟩ := I.tuple hqy
    obtain ⟨u, hu, ru⟩ := rv.get hx
    obtain ⟨u2, hu2, ru2⟩ := rv2.get hy
    have hzl : z < s.heap.objs.size := Heap.lt_size hz
    refine pyNext_zs_item D hz hTI hTO h1 h2 p p2 (x := u) (y := u2) (by simpa using hu) (by simpa using hu2) fun h' z' TO' h1' h2' hT hsz hk => ?_
    refine ⟨_, rfl, go_zs (s := { s with heap := h' }) z' fun h'' z'' sb => ?_⟩
    have hT2 : h''.get? s.heap.objs.size = some { cls := .type "tuple", data := .seq #[u, u2] } := (sb.2 _ (Nat.ne_of_gt hzl)).trans hT
    have new : ObjOk X.prog X.w (upd H s.heap.objs.size (.tup [x, y])) h'' s.heap.objs.size (.tup [x, y]) :=
      ⟨by show 2 ≤ sizeLine; decide, [u, u2], .cons ru (.cons ru2 .nil), ⟨_, hT2, rfl, _, rfl⟩⟩
    have I1 : Inv X pins σ (upd H s.heap.objs.size (.tup [x, y])) { s with heap := h'' } :=
      I.turnedNew (t' := s.toks) (ch := [z, TI, TO, i1, i2]) (fun c o hb q => (sb.2 c (fun q' => hb (by simp [q']))).trans (hk c o (fun q' => hb (by simp [q'])) (fun q' => hb (by simp [q'])) (fun q' => hb (by simp [q'])) (fun q' => hb (by simp [q'])) q)) hf (Nat.le_refl _) new
    refine ⟨.ref s.heap.objs.size, _, I1, rfl, ⟨_, x, y, rfl, I.hok.fresh (Nat.le_refl _), rfl, fun l hl => by rw [I.tuple_inj hl hqx]; exact hx, fun l hl => by rw [I.tuple_inj hl hqy]; exact hy⟩, ⟨z'', ?_, ⟨u, u2, ?_⟩, ?_, ?_⟩, fun c hcm => ?_⟩
    · exact (sb.2 _ D.TIz).trans (hk _ _ D.TIz D.TITO D.TIi1 D.TIi2 hTI)
    · exact (sb.2 _ D.TOz).trans TO'
    · exact h1'.at fun o q => (sb.2 _ D.i1z).trans q
    · exact h2'.at fun o q => (sb.2 _ D.i2z).trans q
    · have hlt : c < s.heap.objs.size := by
        rcases (show c = z ∨ c = TI ∨ c = TO ∨ c = i1 ∨ c = i2 by simpa using hcm) with q | q | q | q | q
        · rw [q]; exact hzl
        · rw [q]; exact Heap.lt_size hTI
        · rw [q]; exact Heap.lt_size hTO
        · rw [q]; obtain ⟨_, e1, _⟩ := h1; exact Heap.lt_size e1
        · rw [q]; obtain ⟨_, e2, _⟩ := h2; exact Heap.lt_size e2
      rw [upd_ne (Nat.ne_of_lt hlt)]
      exact (hf c hcm).1
  done := by
    intro X hP hw hK hc i pins s σ H E I hf st hg
    subst hP hw hK
    obtain ⟨hz, hTI, ⟨x0, y0, hTO⟩, h1, h2⟩ := st
    obtain ⟨xs, ys, hqx, hqy, he1, he2⟩ := hg
    obtain ⟨its, rv, p, _⟩ := I.tuple hqx
    obtain ⟨its2, rv2, p2, _⟩ := I.tuple hqy
    have l1 := rv.length
    have l2 := rv2.length
    exact pyNext_zs_end (I.ok.hd hc) D hz hTI hTO h1 h2 p p2 (by simp; omega) (by simp; omega) fun h' hk => ⟨rfl, I.turnedL (t' := s.toks) (ch := [z, TI, TO, i1, i2]) (fun c o hb q =>
      hk c o (fun q' => hb (by simp [q'])) (fun q' => hb (by simp [q'])) (fun q' => hb (by simp [q'])) (fun q' => hb (by simp [q'])) q) hf⟩
  self := fun A i s Q E st h => iter_zs st.1 h
def iZs (K : PySem.W.Frag) (ta : TA) : TI := fun σ H R => ta σ H fun vs H1 => ∃ a b xs ys, vs = [.ref a, .ref b] ∧ SqT K H1 a xs ∧ SqT K H1 b ys ∧ R (ItS K a b) H1
theorem pi_zs {X : Cx} {e e2 : Expr} {ta : TA} {p pos tpos kpos bpos : Pos} {j : Nat} {elts : List Expr} {kk : Nat} (hg : Gl X "zip") (hm : X.mg "zip" = none) (ha : PA X [e, e2] ta)
    (hs : starEach [e, e2] X.env = (false, eval e X.env) :: starEach [e2] X.env := by rfl) (hs2 : starEach [e2] X.env = [(false, eval e2 X.env)] := by rfl) :
    PI X (.Tuple elts kk tpos) (.Call (.Name "zip" p) [e, e2] [⟨some "strict", .Constant (.bool true) j bpos, kpos⟩] pos) (iZs X.K ta) := by
  refine ⟨fun pins s σ H R I h => ?_⟩
  refine wpAny_Call_Name_kw (ld_blt I hg hm PyProof.Rows.boot_zip ?_)
  refine PySem.W.callWith_of (P := fun _ => True) (by rw [hs, hs2]; rfl) (fun h _ => ⟨.machine, .inr (.inl rfl), (show PySem.W.Looks _ h (pure Keeper.machine) Keeper.machine from .now)⟩) ?_
  refine evalArgs_kw2 (by rfl) (thn (ha.run pos pins s σ H _ I h) fun us s1 ⟨vs, H1, I1, r1, q1⟩ => ?_) hs
  have PKt : PK X [⟨some "strict", .Constant (.bool true) j bpos, kpos⟩] (tCons (tC (.bl true)) tNil) := pk_cons pe_bl pk_nil
  refine thn (PKt.run pos pins s1 σ H1 (fun ws H2 => ws = [.bl true] ∧ H2 = H1) I1 ⟨rfl, rfl⟩) fun kv s2 ⟨ws, H2, I2, r2, e3, e4⟩ => ⟨trivial, ?_⟩
  subst e3 e4
  obtain ⟨u, rfl, ru⟩ := vals1 r2
  cases ru
  obtain ⟨a, b, xs, ys, ex, hqx, hqy, q⟩ := q1
  subst ex
  obtain ⟨u1, u2, rfl, ra, rb⟩ := vals2 r1
  cases ra
  cases rb
  obtain ⟨its, rv, p1, _⟩ := I2.tuple hqx
  obtain ⟨its2, rv2, p2, _⟩ := I2.tuple hqy
  obtain ⟨o1, ho1, _⟩ := id p1
  obtain ⟨o2, ho2, _⟩ := id p2
  have fresh5 : ∀ c, c ∈ [s2.heap.objs.size + 4, s2.heap.objs.size + 2, s2.heap.objs.size + 3, s2.heap.objs.size, s2.heap.objs.size + 1] → FpOk X pins H2 c := fun c hcm => by
    have hle : s2.heap.objs.size ≤ c := by
      rcases (show c = s2.heap.objs.size + 4 ∨ c = s2.heap.objs.size + 2 ∨ c = s2.heap.objs.size + 3 ∨ c = s2.heap.objs.size ∨ c = s2.heap.objs.size + 1 by simpa using hcm) with z | z | z | z | z
      · rw [z]; exact Nat.le_add_right _ _
      · rw [z]; exact Nat.le_add_right _ _
      · rw [z]; exact Nat.le_add_right _ _
      · rw [z]; exact Nat.le_refl _
      · rw [z]; exact Nat.le_add_right _ _
    exact I2.fpOk hle (I2.hok.fresh hle)
  show wpAny _ _ (call (.type "zip") [.ref a, .ref b] [(Str.ofString "strict", .bool true)]) _ _ _
  refine call_zs p1 p2 fun h' hz hTI hTO h1 h2 hk => iter_zs hz ?_
  have I3 : Inv X pins σ H2 { s2 with heap := h' } := I2.kept (t' := s2.toks) hk
  exact ⟨s2.heap.objs.size + 4, [s2.heap.objs.size + 4, s2.heap.objs.size + 2, s2.heap.objs.size + 3, s2.heap.objs.size, s2.heap.objs.size + 1], _, _, H2, rfl, I3, turn_zs (PySem.W.ktu_apart s2.heap.objs.size a b (Heap.lt_size ho1) (Heap.lt_size ho2)), ⟨hz, hTI, ⟨_, _, hTO⟩, h1, h2⟩, fresh5, q⟩
theorem walk_zs {K : PySem.W.Frag} {a b : Addr} {xs ys : List V} (hn : ys.length = xs.length) : Walk (ItS K a b) xs.length (fun H => SqT K H a xs ∧ SqT K H b ys) (YPair (fun i => xs[i]?) (fun i => ys[i]?)) := by
  refine ⟨fun i _ hi q => ?_, fun _ q => ⟨xs, ys, q.1, q.2, Nat.le_refl _, Nat.le_of_eq hn⟩, fun i H v H' _ q y => ?_⟩
  · have h2 : i < ys.length := by omega
    exact ⟨xs, ys, xs[i], ys[i], q.1, q.2, by simp [hi], by simp [h2]⟩
  · obtain ⟨T, x, z, h1, h2, h3, h4, h5⟩ := y
    exact ⟨T, x, z, h1, h2, h3, h4 xs q.1, h5 ys q.2⟩
end Dome
/-! Rules of our own: set(tuple of ints); tuple * n, n above 0. -/
namespace Dome
open PySem PySem.Spec PyProof.Rows L2 Evl

/-! ### sorted(set(t)) -/
def rSetT (w : World) (K : PySem.W.Frag) : List V → Hp → VK → Prop := fun vs H Q => ∃ (p : Addr) (ns : List Int), vs = [V.ref p] ∧ SqT K H p (ns.map V.int) ∧ ns.length ≤ 1000 ∧
  ∀ q c, H q = none → c ≤ ns.length → Q (.ref q) (upd H q (SetO w q (fun j => decide (j ∈ ns)) c))
theorem cr_setT {X : Cx} (hc : X.calm = true) : CallR X (.type "set") (rSetT X.w X.K) := by
  intro pins s σ H vs us Q I r h
  obtain ⟨p, ns, rfl, hq, hl, q⟩ := h
  rw [Vals.ref1 r]
  obtain ⟨its, rv, pt, hz⟩ := I.tuple hq
  have hi : IntsAre its.toArray.toList ns := by simpa using rv.ints
  refine call_set_tupI ns (I.ok.hd hc) (show s.heap.IsTuple p its.toArray from pt) hi (by unfold scanBound; omega) fun h' tk c R1 hcn k => ?_
  have hn : H s.heap.objs.size = none := I.hok.fresh (Nat.le_refl _)
  exact ⟨.ref s.heap.objs.size, _, I.laid (t' := tk) k (Nat.le_refl _) (setO_new R1), rfl, q _ _ hn hcn⟩
theorem ed_sortedSet {K : PySem.W.Frag} {w : World} {σ : L2.St} {H : Hp} {ta : TE} {ns ms : List Int} (h : Ed K ta σ H (.tuple (ns.map .int))) (hl : ns.length < 64) (hm : ms.Pairwise (· < ·)) (hk : ∀ k, k ∈ ms ↔ k ∈ ns) :
    El K (tCB (rSortedSet w) (tCons (tCB (rSetT w K) (tCons ta tNil)) tNil)) σ H (ms.map .int) := fun H1 e Q q =>
  h H1 e _ fun v H2 e2 k2 => by
    cases k2 with
    | tup hs hA =>
      have ex := hA.ints
      subst ex
      refine ⟨_, ns, rfl, hs, by omega, fun p c hp hc => ?_⟩
      refine ⟨p, _, c, rfl, upd_same, by omega, fun out l h1 h2 h3 hl' => ?_⟩
      have eo : out = ms := by
        have pr : out.Perm ms := (List.perm_ext_iff_of_nodup (h1.imp fun h => by omega) (hm.imp fun h => by omega)).mpr fun k => by rw [h2, hk]; simp
        exact pr.eq_of_pairwise (fun x y _ _ a b => by omega) h1 hm
      subst eo
      have e3 : Ex H2 (upd (upd H2 p (SetO w p (fun j => decide (j ∈ ns)) c)) l (.lst (out.map V.int))) := (Ex.new hp).trans (Ex.new hl')
      exact q l _ _ (fresh_back (e2.trans (Ex.new hp)) hl') (e2.trans e3) upd_same (DtA.ofInts _)

/-! ### t * n -/
theorem tuple_mul1 (l : Addr) (items : Array Value) (n : Nat) (dd : Option Addr) (sl : Array (Option Value)) (u : Tok) :
    Meets (Builtin.«tuple.__mul__» ⟨[.ref l, .int 1 u], []⟩) (fun _ R s => s.heap.get? l = some { cls := .type "tuple", dict := dd, data := .seq items n, slots := sl } ∧ R (.ok (.ret (Value.ref l))) s) :=
  .of_wp fun prog w A R s h => by
    obtain ⟨hp, g, d, tk, os⟩ := s
    obtain ⟨hl, h⟩ := h
    have f1 := AutoSeq1.idx_int
    wp_walk using AutoSeq1.wpAny_loadPart' hl
    exact ⟨_, rfl, h⟩
def rRep1 (K : PySem.W.Frag) : R2 := fun x y H Q => ∃ l xs, x = .ref l ∧ y = .int 1 ∧ SqT K H l xs ∧ Q (.ref l) H
theorem op_rep1 {X : Cx} : OpR X (binaryOp .Mult) (rRep1 X.K) := by
  intro pins s σ H x y v u Q I rx ry h
  obtain ⟨l, xs, rfl, rfl, hT, q⟩ := h
  cases rx
  obtain ⟨t, rfl⟩ := ry
  obtain ⟨its, r, ⟨⟨cls, dd, data, sl⟩, ho, hc, n, hd⟩, hs⟩ := I.tuple hT
  simp only at hc hd
  subst hc hd
  exact wpAny_binaryOp_repeat_ref (T := "tuple") (U := "int") (by decide) ⟨_, ho, rfl⟩ (fun s' => typeIs_int s' 1 t) noFill_tuple_mul F.fills_int_mul F.slot_int_rmul repeat_tuple F.slot_int_index.lookup
    (call_meets F.slot_int_rmul (typeIs_int s 1 t) F.entry_int_rmul (F.args_int_rmul_2 _ _) (int_rmul_tuple 1 t l its.toArray n dd sl)
      ⟨ho, rfl, ⟨_, ho, rfl⟩, call_meets F.slot_tuple_mul ⟨_, ho, rfl⟩ F.entry_tuple_mul (F.args_tuple_mul_2 _ _) (tuple_mul1 l its.toArray n dd sl t) ⟨ho, ⟨.ref l, H, I, rfl, q⟩⟩⟩)
abbrev rRepN (K : PySem.W.Frag) : R2 := fun x y H Q => rRep1 K x y H Q ∨ rRepT K x y H Q
theorem op_repN {X : Cx} : OpR X (binaryOp .Mult) (rRepN X.K) := op_rep1.or op_repT
theorem DtA.rep {K : PySem.W.Frag} {H : Hp} {vs : List V} {ds : List PyData} (h : DtA K H vs ds) : ∀ k : Nat, DtA K H (List.replicate k vs).flatten (List.replicate k ds).flatten
  | 0 => .nil
  | k + 1 => by
    rw [List.replicate_succ, List.replicate_succ, List.flatten_cons, List.flatten_cons]
    exact h.append (DtA.rep h k)
theorem ed_rep {K : PySem.W.Frag} {σ : L2.St} {H : Hp} {ta tb : TE} {ds : List PyData} {n : Int} (ha : Ed K ta σ H (.tuple ds)) (hb : Ed K tb σ H (.int n)) (h1 : 1 ≤ n) (h2 : n ≤ 1000) (h3 : ds ≠ []) (h4 : ds.length ≤ 1000) :
    Ed K (tOp (rRepN K) ta tb) σ H (.tuple (List.replicate n.toNat ds).flatten) :=
  ed_op ha hb fun v u H1 _ hv hu Q q => by
    cases hu
    cases hv with
    | tup hs hA =>
      by_cases e : n = 1
      · subst e
        refine .inl ⟨_, _, rfl, rfl, hs, q _ H1 (Ex.refl H1) ?_⟩
        rw [show (List.replicate (1 : Int).toNat ds).flatten = ds by simp [List.replicate]]
        exact .tup hs hA
      · have hl := hA.len
        refine .inr ⟨_, n, _, rfl, rfl, hs, fun z => h3 ?_, by omega, h2, by omega, fun p hp => q _ _ (Ex.new hp) (.tup (st_of upd_same) ((hA.rep n.toNat).ex (Ex.new hp)))⟩
        rw [z] at hl
        exact List.eq_nil_of_length_eq_zero hl.symm
/-- sorted of pairs: the one list -/
noncomputable def sortP (ps : List (Int × Int)) : List (Int × Int) := by
  classical
  exact if h : ∃ l : List (Int × Int), SrtO.Srtd SrtO.lexB l ∧ SrtO.Stb SrtO.lexB l ps then h.choose else ps
theorem lexB_swo : SrtO.Swo SrtO.lexB := by
  refine ⟨fun x y h => ?_, fun x y z h1 h2 => ?_⟩
  · have a := SrtO.lexB_iff.mp h
    refine SrtO.lexB_no.mpr ?_
    omega
  · have a := SrtO.lexB_no.mp h1
    have b := SrtO.lexB_no.mp h2
    refine SrtO.lexB_no.mpr ?_
    omega
theorem sortP_is {ps l : List (Int × Int)} (h1 : SrtO.Srtd SrtO.lexB l) (h2 : SrtO.Stb SrtO.lexB l ps) : l = sortP ps := by
  have h : ∃ l : List (Int × Int), SrtO.Srtd SrtO.lexB l ∧ SrtO.Stb SrtO.lexB l ps := ⟨l, h1, h2⟩
  unfold sortP
  rw [dif_pos h]
  have c := h.choose_spec
  refine SrtO.stb_uniq lexB_swo h1 c.1 (h2.trans ⟨c.2.perm.symm, fun x => (c.2.cls x).symm⟩)
def pairD (p : Int × Int) : PyData := .tuple [.int p.1, .int p.2]
theorem pair_of {K : PySem.W.Frag} {H : Hp} {v : V} {p : Int × Int} (h : Dt K H v (pairD p)) : ∃ t, v = .ref t ∧ SqT K H t [.int p.1, .int p.2] := by
  cases h with
  | tup hs hA =>
    cases hA with
    | cons k1 hA =>
      cases hA with
      | cons k2 hA =>
        cases k1; cases k2; cases hA
        exact ⟨_, rfl, hs⟩
/-- a list of new pairs: they are tracked -/
def ElP (K : PySem.W.Frag) (te : TE) (σ : L2.St) (H : Hp) (ps : List (Int × Int)) : Prop :=
  ∀ H1, Tx H H1 → ∀ Q : VK, (∀ p xs H2, H1 p = none → Ex H1 H2 → H2 p = some (.lst xs) → Paired (fun (v : V) (q : Int × Int) => ∃ t, v = .ref t ∧ H2 t = some (.tup [.int q.1, .int q.2])) xs ps → Q (.ref p) H2) → te σ H1 Q
theorem paired_mem {α β : Type} {R : α → β → Prop} : ∀ {xs : List α} {ys : List β}, Paired R xs ys → ∀ x ∈ xs, ∃ y, R x y
  | _, _, .nil, x, h => nomatch h
  | _, _, .cons r t, x, h => by
    rcases List.mem_cons.mp h with e | h
    · exact ⟨_, e ▸ r⟩
    · exact paired_mem t x h
def pairOf (H : Hp) : V → Int × Int
  | .ref t => (match H t with
    | some (.tup [.int a, .int b]) => (a, b)
    | _ => (0, 0))
  | _ => (0, 0)
theorem ed_sortedP {K : PySem.W.Frag} {σ : L2.St} {H : Hp} {ta : TE} {ps : List (Int × Int)} (h : ElP K ta σ H ps) : El K (tCB (rSortedPO K) (tCons ta tNil)) σ H ((sortP ps).map pairD) := fun H1 e Q q =>
  h H1 e _ fun p xs H2 hp e2 hx hk => by
    let k : V → Int × Int := pairOf H2
    have kk : ∀ (t : Addr) (q : Int × Int), H2 t = some (.tup [.int q.1, .int q.2]) → k (.ref t) = q := fun t q hq => by
      show pairOf H2 (.ref t) = q
      unfold pairOf
      simp only [hq]
    have mp : ∀ {xs : List V} {ps : List (Int × Int)}, Paired (fun (v : V) (q : Int × Int) => ∃ t, v = .ref t ∧ H2 t = some (.tup [.int q.1, .int q.2])) xs ps → xs.map k = ps := by
      intro xs ps r
      induction r with
      | nil => rfl
      | cons r _ ih =>
        obtain ⟨t, rfl, ht⟩ := r
        rw [List.map_cons, kk t _ ht, ih]
    refine ⟨p, xs, k, rfl, sq_of hx, fun x hm => ?_, fun ys l h1 h2 hl => ?_⟩
    · obtain ⟨q0, t, rfl, ht⟩ := paired_mem hk x hm
      exact ⟨t, rfl, by rw [kk t q0 ht]; exact ht⟩
    · have m1 : SrtO.Srtd SrtO.lexB (ys.map k) := SrtO.srtd_map h1
      have m2 : SrtO.Stb SrtO.lexB (ys.map k) (xs.map k) := SrtO.Stb.map lexB_swo k h2
      rw [mp hk] at m2
      have es := sortP_is m1 m2
      have e3 : Ex H2 (upd H2 l (.lst ys)) := Ex.new hl
      refine q l ys _ (fresh_back e2 hl) (e2.trans e3) upd_same ?_
      rw [← es]
      have all : ∀ y ∈ ys, ∃ (t : Addr) (q : Int × Int), y = .ref t ∧ H2 t = some (.tup [.int q.1, .int q.2]) := fun y hy => by
        obtain ⟨q0, t, a, b⟩ := paired_mem hk y (h2.perm.mem_iff.mp hy)
        exact ⟨t, q0, a, b⟩
      clear h1 h2 m1 m2 es hl q
      generalize upd H2 l (.lst ys) = H3 at e3
      induction ys with
      | nil => exact .nil
      | cons y ys ih =>
        obtain ⟨t, q0, rfl, ht⟩ := all y List.mem_cons_self
        rw [List.map_cons, List.map_cons, kk t q0 ht]
        exact .cons (.tup (st_of (e3 _ _ ht)) (.cons (.int _) (.cons (.int _) .nil))) (ih fun y hy => all y (List.mem_cons_of_mem _ hy))
end Dome
/-! Readings as data: slices, tuple + tuple, comprehensions, statements, loops. -/
namespace Dome
open PySem L2 Evl

section
variable {K : PySem.W.Frag} {σ : L2.St} {H H' : Hp} {ta tb te tx tl : TE} {t tt u : TT} {x y z d : PyData} {v : V} {r : R2} {ds es : List PyData}

/-! ### t + u, t[a:b] -/
theorem ed_cat (ha : Ed K ta σ H (.tuple ds)) (hb : Ed K tb σ H (.tuple es)) (hl : ds.length + es.length ≤ 1000 := by exact Nat.le_of_ble_eq_true rfl) : Ed K (tOp (rCatA K) ta tb) σ H (.tuple (ds ++ es)) :=
  ed_op ha hb fun v u H1 _ hv hu Q q => by
    cases hv with
    | @tup a xs _ ha1 hA =>
      cases hu with
      | @tup b ys _ hb1 hB =>
        have l1 := hA.len
        have l2 := hB.len
        refine ⟨a, b, xs, ys, rfl, rfl, ha1, hb1, sz_of (by omega), fun e => ?_, fun e1 e => ?_, fun e1 e2 p hp => q _ _ (Ex.new hp) (.tup (st_of upd_same) ((hA.append hB).ex (Ex.new hp)))⟩
        · subst e
          have e0 : ds = [] := List.eq_nil_of_length_eq_zero l1.symm
          subst e0
          exact q _ H1 (Ex.refl H1) (.tup hb1 hB)
        · subst e
          have e0 : es = [] := List.eq_nil_of_length_eq_zero l2.symm
          subst e0
          rw [List.append_nil] at q
          exact q _ H1 (Ex.refl H1) (.tup ha1 hA)
theorem eo_none : Eo tNoPart σ H none := fun H1 _ _ q => q H1 (Ex.refl H1)
theorem eo_some {i : Int} (h : Ed K te σ H (.int i)) : Eo (tPart te) σ H (some i) := fun H1 e _ q => h H1 e _ fun v H2 e2 k => by
  cases k
  exact ⟨i, rfl, q H2 e2⟩
def cutD (ds : List PyData) (lo hi : Option Int) : List PyData := (ds.drop (HT.sIx ds.length 0 lo)).take (HT.sIx ds.length ds.length hi - HT.sIx ds.length 0 lo)
theorem ed_sl {t1 t2 : TO} {lo hi : Option Int} (h : Ed K te σ H (.tuple ds)) (h1 : Eo t1 σ H lo) (h2 : Eo t2 σ H hi) : Ed K (tSl (rSlA K) te t1 t2) σ H (.tuple (cutD ds lo hi)) := fun H1 e Q q =>
  h H1 e _ fun v H2 e2 k2 => h1 H2 (e.trans (.of e2)) _ fun H3 e3 => h2 H3 ((e.trans (.of e2)).trans (.of e3)) _ fun H4 e4 => by
    have k4 := (k2.ex e3).ex e4
    cases k4 with
    | @tup a xs _ ha hA =>
      refine ⟨a, xs, rfl, ha, fun w => ?_, fun w p hp => q _ _ (((e2.trans e3).trans e4).trans (Ex.new hp)) (.tup (st_of upd_same) ((hA.cut lo hi).ex (Ex.new hp)))⟩
      refine q _ H4 ((e2.trans e3).trans e4) (.tup ha ?_)
      have e0 : cutV xs lo hi = xs := by
        unfold cutV
        rw [w.1, w.2, Nat.sub_zero, List.drop_zero, List.take_length]
      have c := hA.cut lo hi
      rw [e0] at c
      exact c

/-! ### comprehensions -/
def Acc (K : PySem.W.Frag) (H0 : Hp) (D : Addr) (es : List PyData) (H : Hp) : Prop := H0 D = none ∧ Ex H0 H ∧ es.length ≤ 100000 ∧ ∃ acc, H D = some (.lst acc) ∧ DtA K H acc es
theorem Acc.start {H0 : Hp} {D : Addr} (h : H0 D = none) : Acc K H0 D [] (upd H0 D (.lst [])) := ⟨h, Ex.new h, Nat.zero_le _, [], upd_same, .nil⟩
theorem acc_turn {H0 H1 : Hp} {D : Addr} {b : Bool} {σ2 : L2.St} {P : Hp → Prop} (p : Acc K H0 D es H1) (hl : es.length < 100000) (ht : Eb tt σ2 H1 b) (he : b = true → Ed K te σ2 H1 d) (hP : ∀ H', Acc K H0 D (es ++ if b = true then [d] else []) H' → P H') :
    tt σ2 H1 fun c H3 => if c = true then te σ2 H3 fun y H4 => ∃ acc, H4 D = some (.lst acc) ∧ acc.length < sizeLine ∧ P (upd H4 D (.lst (acc ++ [y]))) else P H3 := by
  obtain ⟨p1, p2, p3, acc, p4, p5⟩ := p
  refine ht H1 (Tx.refl _) _ fun H3 e3 => ?_
  cases b with
  | true =>
    show te σ2 H3 _
    refine he rfl H3 (.of e3) _ fun y H4 e4 k4 => ⟨acc, e4 _ _ (e3 _ _ p4), sz_lt (by rw [p5.len]; exact hl), hP _ ⟨p1, Ex.mut ((p2.trans e3).trans e4) p1, ?_, _, upd_same, ?_⟩⟩
    · rw [if_pos rfl, List.length_append, List.length_singleton]; omega
    · rw [if_pos rfl]
      have t := Tx.lst (o := .lst (acc ++ [y])) (e4 _ _ (e3 _ _ p4))
      exact (((p5.ex e3).ex e4).at t).append (.cons (k4.at t) .nil)
  | false =>
    show P H3
    refine hP H3 ⟨p1, p2.trans e3, ?_, acc, e3 _ _ p4, ?_⟩
    · rw [if_neg Bool.false_ne_true, List.append_nil]; exact p3
    · rw [if_neg Bool.false_ne_true, List.append_nil]; exact p5.ex e3
/-- which of the first n turns give, and what -/
def giv (f : Nat → Bool) (g : Nat → PyData) : Nat → List PyData
  | 0 => []
  | n + 1 => giv f g n ++ if f n = true then [g n] else []
theorem giv_len (f : Nat → Bool) (g : Nat → PyData) : ∀ n, (giv f g n).length ≤ n
  | 0 => Nat.le_refl _
  | n + 1 => by
    have ih := giv_len f g n
    unfold giv
    rw [List.length_append]
    split
    · rw [List.length_singleton]; omega
    · rw [List.length_nil]; omega
theorem giv_list {α : Type} {f : α → Bool} {g : α → PyData} {f' : Nat → Bool} {g' : Nat → PyData} : ∀ (l : List α), (∀ i a, l[i]? = some a → f' i = f a ∧ g' i = g a) → giv f' g' l.length = (l.filter f).map g := by
  intro l
  have key : ∀ (n : Nat), n ≤ l.length → (∀ i a, l[i]? = some a → f' i = f a ∧ g' i = g a) → giv f' g' n = ((l.take n).filter f).map g := by
    intro n
    induction n with
    | zero => intro _ _; rfl
    | succ n ih =>
      intro hn h
      have hlt : n < l.length := hn
      obtain ⟨a1, a2⟩ := h n l[n] (List.getElem?_eq_getElem hlt)
      unfold giv
      rw [ih (Nat.le_of_succ_le hn) h, List.take_succ_eq_append_getElem hlt, List.filter_append, List.map_append, a1, a2]
      congr 1
      by_cases q : f l[n] = true
      · rw [if_pos q, List.filter_cons_of_pos q]; rfl
      · rw [if_neg q, List.filter_cons_of_neg q]; rfl
  intro h
  rw [key l.length (Nat.le_refl _) h, List.take_length]
/-- over any walk whose target is a name -/
theorem el_lcN {J : It} {n : Nat} {G : Hp → Prop} {j : Nat} {vs : List Nat} {wi : TI} (src : Nat → PyData) (f : Nat → Bool) (g : Nat → PyData)
    (hi : ∀ H1, Tx H H1 → ∀ R : It → Hp → Prop, (∀ (J : It) (G : Hp → Prop) (xs : Nat → V) H2, Ex H1 H2 → Walk J n G (fun i H x H' => H' = H ∧ x = xs i) → G H2 → (∀ Ha Hb, Tx Ha Hb → Ex H2 Hb → G Ha → G Hb) → (∀ i, i < n → Dt K H2 (xs i) (src i)) → R J H2) → wi σ H1 R)
    (hn : n ≤ 10000) (hw : ∀ x, wipe ((wipe σ vs).set j (some x)) vs = wipe σ vs)
    (ht : ∀ i, i < n → ∀ v H1, Tx H H1 → Dt K H1 v (src i) → Eb tt ((wipe σ vs).set j (some v)) H1 (f i)) (he : ∀ i, i < n → f i = true → ∀ v H1, Tx H H1 → Dt K H1 v (src i) → Ed K te ((wipe σ vs).set j (some v)) H1 (g i)) :
    El K (tLc wi (gName j) tt te vs) σ H (giv f g n) := fun H0 e Q q => by
  refine hi H0 e _ fun J G xs H2 e2 W g2 gx hx D hD => ?_
  have eT : Tx H H2 := e.trans (.of e2)
  refine lc_it (W.mono (G' := fun H' => Ex H2 H') (Y' := fun i H x H' => H' = H ∧ x = xs i) (fun H' h => gx H2 H' (.of h) h g2) (fun _ _ _ _ _ _ y => y)) (fun i H' => Acc K H2 D (giv f g i) H') (Acc.start hD) (fun i H' _ p => p.2.1) (fun i v Ha Hb hi' p y => ?_) fun H' p => ?_
  · obtain ⟨rfl, rfl⟩ := y
    refine ⟨hw _, ?_⟩
    have tb : Tx H Hb := eT.trans (.of p.2.1)
    have kx := (hx i hi').ex p.2.1
    exact acc_turn p (Nat.lt_of_le_of_lt (giv_len f g i) (by omega)) (ht i hi' _ Hb tb kx) (fun hf => he i hi' hf _ Hb tb kx) fun H' a => a
  · obtain ⟨p1, p2, _, acc, p4, p5⟩ := p
    exact q D acc H' (fresh_back e2 p1) (e2.trans p2) p4 p5
/-- over a tuple -/
theorem el_lcT {j : Nat} {vs : List Nat} (f : PyData → Bool) (g : PyData → PyData) (h : Ed K tl σ H (.tuple ds)) (hw : ∀ x, wipe ((wipe σ vs).set j (some x)) vs = wipe σ vs)
    (ht : ∀ d ∈ ds, ∀ v H1, Tx H H1 → Dt K H1 v d → Eb tt ((wipe σ vs).set j (some v)) H1 (f d)) (he : ∀ d ∈ ds, f d = true → ∀ v H1, Tx H H1 → Dt K H1 v d → Ed K te ((wipe σ vs).set j (some v)) H1 (g d)) (hl : ds.length ≤ 10000 := by decide) :
    El K (tLc (iTup K tl) (gName j) tt te vs) σ H ((ds.filter f).map g) := by
  have mem : ∀ i, i < ds.length → ds.getD i .none ∈ ds := fun i hi => by
    rw [List.getD_eq_getElem?_getD, List.getElem?_eq_getElem hi]
    exact List.getElem_mem hi
  have e0 : giv (fun i => f (ds.getD i .none)) (fun i => g (ds.getD i .none)) ds.length = (ds.filter f).map g := giv_list ds fun i a ha => by
    have ea : ds.getD i .none = a := by rw [List.getD_eq_getElem?_getD, ha]; rfl
    rw [ea]
    exact ⟨rfl, rfl⟩
  rw [← e0]
  refine el_lcN (J := Itt K 0) (G := fun _ => True) (fun i => ds.getD i .none) (fun i => f (ds.getD i .none)) (fun i => g (ds.getD i .none)) (fun H1 e R q => h H1 e _ fun v H2 e2 k => ?_) hl hw (fun i hi => ht _ (mem i hi)) (fun i hi => he _ (mem i hi))
  cases k with
  | @tup a xs _ ha hA =>
    refine ⟨a, rfl, ⟨xs, ha⟩, q (Itt K a) (fun H => SqT K H a xs) (fun i => xs.getD i .non) H2 e2 ?_ ha (fun Ha Hb _ eb _ => ex_t eb ha) fun i hi => ?_⟩
    · rw [← hA.len]
      exact walk_tup.mono (fun _ h => h) fun i H x H' hi _ y => ⟨y.1, by rw [List.getD_eq_getElem?_getD, y.2]; rfl⟩
    · obtain ⟨w, hw1, hw2⟩ := hA.get (i := i) (d := ds.getD i .none) (by rw [List.getD_eq_getElem?_getD, List.getElem?_eq_getElem hi]; rfl)
      rw [List.getD_eq_getElem?_getD, hw1]
      exact hw2
/-- over range(n) -/
theorem el_lcR {ta : TA} {j : Nat} {vs : List Nat} {n : Nat} (f : Nat → Bool) (g : Nat → PyData) (h : Ea K ta σ H [.int (n : Int)]) (hw : ∀ x, wipe ((wipe σ vs).set j (some x)) vs = wipe σ vs) (hn : n ≤ 10000)
    (ht : ∀ i, i < n → ∀ H1, Tx H H1 → Eb tt ((wipe σ vs).set j (some (.int (i : Int)))) H1 (f i)) (he : ∀ i, i < n → f i = true → ∀ H1, Tx H H1 → Ed K te ((wipe σ vs).set j (some (.int (i : Int)))) H1 (g i)) :
    El K (tLc (iRng1 ta) (gName j) tt te vs) σ H (giv f g n) := by
  refine el_lcN (J := Itr 0 n) (G := fun _ => True) (fun i => .int (i : Int)) f g (fun H1 e R q => h H1 e _ fun ws H2 e2 ks => ?_) hn hw (fun i hi v H1 t k => ?_) fun i hi hf v H1 t k => ?_
  · cases ks with
    | cons k1 ks =>
      cases k1; cases ks
      refine ⟨(n : Int), rfl, by omega, by omega, ?_⟩
      rw [Int.toNat_natCast]
      exact q (Itr 0 n) (fun _ => True) (fun i => .int (i : Int)) H2 e2 (walk_range.mono (fun _ h => h) fun i H x H' _ _ y => ⟨y.1, y.2.trans (congrArg V.int (Int.zero_add _))⟩) trivial (fun _ _ _ _ _ => trivial) fun i _ => .int _
  · cases k
    exact ht i hi H1 t
  · cases k
    exact he i hi hf H1 t
/-- over any walk of new pairs, the target two names -/
theorem el_lcPair {n : Nat} {j k : Nat} {vs : List Nat} {wi : TI} (da db : Nat → PyData) (f : Nat → Bool) (g : Nat → PyData)
    (hi : ∀ H1, Tx H H1 → ∀ R : It → Hp → Prop, (∀ (J : It) (G : Hp → Prop) (xs ys : Nat → Option V) H2, Ex H1 H2 → Walk J n G (YPair xs ys) → (∀ Hb, Ex H2 Hb → G Hb) → (∀ i, i < n → ∀ x, xs i = some x → Dt K H2 x (da i)) → (∀ i, i < n → ∀ y, ys i = some y → Dt K H2 y (db i)) → R J H2) → wi σ H1 R)
    (hn : n ≤ 10000) (hw : ∀ x y, wipe (((wipe σ vs).set j (some x)).set k (some y)) vs = wipe σ vs)
    (ht : ∀ i, i < n → ∀ v u H1, Tx H H1 → Dt K H1 v (da i) → Dt K H1 u (db i) → Eb tt (((wipe σ vs).set j (some v)).set k (some u)) H1 (f i))
    (he : ∀ i, i < n → f i = true → ∀ v u H1, Tx H H1 → Dt K H1 v (da i) → Dt K H1 u (db i) → Ed K te (((wipe σ vs).set j (some v)).set k (some u)) H1 (g i)) :
    El K (tLc wi (gTup K 2 (gCons (gName j) (gCons (gName k) gNil))) tt te vs) σ H (giv f g n) := fun H0 e Q q => by
  refine hi H0 e _ fun J G xs ys H2 e2 W gx hx hy D hD => ?_
  have eT : Tx H H2 := e.trans (.of e2)
  refine lc_it (W.mono (G' := fun H' => Ex H2 H') (Y' := YPair xs ys) (fun H' h => gx H' h) (fun _ _ _ _ _ _ y => y)) (fun i H' => Acc K H2 D (giv f g i) H') (Acc.start hD) (fun i H' _ p => p.2.1) (fun i v Ha Hb hi' p y => ?_) fun H' p => ?_
  · obtain ⟨T, x, w, rfl, hT, rfl, h1, h2⟩ := y
    have eb : Ex Ha (upd Ha T (.tup [x, w])) := Ex.new hT
    refine ⟨T, [x, w], rfl, st_of upd_same, rfl, x, [w], rfl, w, [], rfl, rfl, hw _ _, ?_⟩
    have pb : Acc K H2 D (giv f g i) (upd Ha T (.tup [x, w])) := by
      obtain ⟨p1, p2, p3, acc, p4, p5⟩ := p
      exact ⟨p1, p2.trans eb, p3, acc, eb _ _ p4, p5.ex eb⟩
    have tb : Tx H (upd Ha T (.tup [x, w])) := eT.trans (.of pb.2.1)
    have k1 := (hx i hi' x h1).ex pb.2.1
    have k2 := (hy i hi' w h2).ex pb.2.1
    exact acc_turn pb (Nat.lt_of_le_of_lt (giv_len f g i) (by omega)) (ht i hi' _ _ _ tb k1 k2) (fun hf => he i hi' hf _ _ _ tb k1 k2) fun H' a => a
  · obtain ⟨p1, p2, _, acc, p4, p5⟩ := p
    exact q D acc H' (fresh_back e2 p1) (e2.trans p2) p4 p5
/-- for number, item in enumerate(tuple) -/
theorem el_lcE {ta : TA} {j k : Nat} {vs : List Nat} (f : Nat → Bool) (g : Nat → PyData) (h : Ea K ta σ H [.tuple ds]) (hl : ds.length ≤ 10000) (hw : ∀ x y, wipe (((wipe σ vs).set j (some x)).set k (some y)) vs = wipe σ vs)
    (ht : ∀ i, i < ds.length → ∀ u H1, Tx H H1 → Dt K H1 u (ds.getD i .none) → Eb tt (((wipe σ vs).set j (some (.int (i : Int)))).set k (some u)) H1 (f i))
    (he : ∀ i, i < ds.length → f i = true → ∀ u H1, Tx H H1 → Dt K H1 u (ds.getD i .none) → Ed K te (((wipe σ vs).set j (some (.int (i : Int)))).set k (some u)) H1 (g i)) :
    El K (tLc (iEnumT K ta) (gTup K 2 (gCons (gName j) (gCons (gName k) gNil))) tt te vs) σ H (giv f g ds.length) := by
  refine el_lcPair (fun i => .int (i : Int)) (fun i => ds.getD i .none) f g (fun H1 e R q => h H1 e _ fun ws H2 e2 ks => ?_) hl hw (fun i hi v u H1 t k1 k2 => ?_) fun i hi hf v u H1 t k1 k2 => ?_
  · cases ks with
    | cons k1 ks =>
      cases ks
      cases k1 with
      | @tup a xs _ ha hA =>
        refine ⟨a, xs, rfl, ha, q (ItE K a) (fun H => SqT K H a xs) _ _ H2 e2 (by rw [← hA.len]; exact walk_enumT) (fun Hb eb => ex_t eb ha) (fun i _ x hx => ?_) fun i hi y hy => ?_⟩
        · cases hx
          exact .int _
        · obtain ⟨w, hw1, hw2⟩ := hA.get (i := i) (d := ds.getD i .none) (by rw [List.getD_eq_getElem?_getD, List.getElem?_eq_getElem hi]; rfl)
          rw [hy] at hw1
          cases hw1
          exact hw2
  · cases k1
    exact ht i hi u H1 t k2
  · cases k1
    exact he i hi hf u H1 t k2
theorem dta_getD {xs : List V} (hA : DtA K H xs ds) {i : Nat} {y : V} (hy : xs[i]? = some y) : Dt K H y (ds.getD i .none) := by
  obtain ⟨d, h1, h2⟩ := hA.get' hy
  rw [List.getD_eq_getElem?_getD, h1]
  exact h2
/-- for a, b in zip(t, u, strict=True) -/
theorem el_lcS {j k : Nat} {vs : List Nat} (f : Nat → Bool) (g : Nat → PyData) (h1 : Ed K ta σ H (.tuple ds)) (h2 : Ed K tb σ H (.tuple es)) (hle : es.length = ds.length) (hl : ds.length ≤ 10000) (hw : ∀ x y, wipe (((wipe σ vs).set j (some x)).set k (some y)) vs = wipe σ vs)
    (ht : ∀ i, i < ds.length → ∀ v u H1, Tx H H1 → Dt K H1 v (ds.getD i .none) → Dt K H1 u (es.getD i .none) → Eb tt (((wipe σ vs).set j (some v)).set k (some u)) H1 (f i))
    (he : ∀ i, i < ds.length → f i = true → ∀ v u H1, Tx H H1 → Dt K H1 v (ds.getD i .none) → Dt K H1 u (es.getD i .none) → Ed K te (((wipe σ vs).set j (some v)).set k (some u)) H1 (g i)) :
    El K (tLc (iZs K (tCons ta (tCons tb tNil))) (gTup K 2 (gCons (gName j) (gCons (gName k) gNil))) tt te vs) σ H (giv f g ds.length) := by
  refine el_lcPair (fun i => ds.getD i .none) (fun i => es.getD i .none) f g (fun H1 e R q => h1 H1 e _ fun v H2 e2 k1 => h2 H2 (e.trans (.of e2)) _ fun u H3 e3 k2 => ?_) hl hw ht he
  have k1 := k1.ex e3
  cases k1 with
  | @tup a xs _ ha hA =>
    cases k2 with
    | @tup b ys _ hb hB =>
      have l1 := hA.len
      have l2 := hB.len
      refine ⟨a, b, xs, ys, rfl, ha, hb, q (ItS K a b) (fun H => SqT K H a xs ∧ SqT K H b ys) _ _ H3 (e2.trans e3) (by rw [← l1]; exact walk_zs (by omega)) (fun Hb eb => ⟨ex_t eb ha, ex_t eb hb⟩) (fun i _ x hx => dta_getD hA hx) fun i hi y hy => dta_getD hB hy⟩
/-- for a, b in zip(t, u) of tuples -/
theorem walk_zipT {a b : Addr} {xs ys : List V} {n : Nat} (hn : n = min xs.length ys.length) : Walk (RZ.ItzT K a b) n (fun H => SqT K H a xs ∧ SqT K H b ys) (YPair (fun i => xs[i]?) (fun i => ys[i]?)) := by
  subst hn
  refine ⟨fun i _ hi q => ?_, fun _ q => ⟨xs, ys, q.1, q.2, by omega⟩, fun i H v H' _ q y => ?_⟩
  · have h1 : i < xs.length := by omega
    have h2 : i < ys.length := by omega
    exact ⟨xs, ys, xs[i], ys[i], q.1, q.2, by simp [h1], by simp [h2]⟩
  · obtain ⟨T, x, z, h1, h2, h3, h4, h5⟩ := y
    exact ⟨T, x, z, h1, h2, h3, h4 xs q.1, h5 ys q.2⟩
theorem el_lcZ {j k : Nat} {vs : List Nat} (f : Nat → Bool) (g : Nat → PyData) (h1 : Ed K ta σ H (.tuple ds)) (h2 : Ed K tb σ H (.tuple es)) (hl : ds.length ≤ 10000) (hw : ∀ x y, wipe (((wipe σ vs).set j (some x)).set k (some y)) vs = wipe σ vs)
    (ht : ∀ i, i < min ds.length es.length → ∀ v u H1, Tx H H1 → Dt K H1 v (ds.getD i .none) → Dt K H1 u (es.getD i .none) → Eb tt (((wipe σ vs).set j (some v)).set k (some u)) H1 (f i))
    (he : ∀ i, i < min ds.length es.length → f i = true → ∀ v u H1, Tx H H1 → Dt K H1 v (ds.getD i .none) → Dt K H1 u (es.getD i .none) → Ed K te (((wipe σ vs).set j (some v)).set k (some u)) H1 (g i)) :
    El K (tLc (RZ.iZipA K (tCons ta (tCons tb tNil))) (gTup K 2 (gCons (gName j) (gCons (gName k) gNil))) tt te vs) σ H (giv f g (min ds.length es.length)) := by
  refine el_lcPair (fun i => ds.getD i .none) (fun i => es.getD i .none) f g (fun H1 e R q => h1 H1 e _ fun v H2 e2 k1 => h2 H2 (e.trans (.of e2)) _ fun u H3 e3 k2 => ?_) (by omega) hw ht he
  have k1 := k1.ex e3
  cases k1 with
  | @tup a xs _ ha hA =>
    cases k2 with
    | @tup b ys _ hb hB =>
      have l1 := hA.len
      have l2 := hB.len
      exact ⟨a, b, xs, ys, rfl, .inr ⟨ha, hb, q (RZ.ItzT K a b) (fun H => SqT K H a xs ∧ SqT K H b ys) _ _ H3 (e2.trans e3) (walk_zipT (by omega)) (fun Hb eb => ⟨ex_t eb ha, ex_t eb hb⟩) (fun i _ x hx => dta_getD hA hx) fun i hi y hy => dta_getD hB hy⟩⟩

/-! ### statements -/
variable {D : Ends} {tu tw tz : TS} {g : TG}
theorem sd_asg {i : Nat} (h : Ed K te σ H d) (k : ∀ v H1, Ex H H1 → Dt K H1 v d → D.nx (σ.set i (some v)) H1) : tAsg te (gName i) D σ H := h H (Tx.refl H) _ fun v H1 e kd => k v H1 e kd
theorem sd_asgL {i : Nat} (h : El K te σ H ds) (k : ∀ p xs H1, H p = none → Ex H H1 → H1 p = some (.lst xs) → DtA K H1 xs ds → D.nx (σ.set i (some (.ref p))) H1) : tAsg te (gName i) D σ H := h H (Tx.refl H) _ fun p xs H1 hp e hx kx => k p xs H1 hp e hx kx
theorem sd_ret (h : Ed K te σ H d) (k : ∀ v H1, Ex H H1 → Dt K H1 v d → D.rt v H1) : tRet te D σ H := h H (Tx.refl H) _ fun v H1 e kd => k v H1 e kd
theorem sd_drop (h : Ed K te σ H d) (k : ∀ H1, Ex H H1 → D.nx σ H1) : tDrop te D σ H := h H (Tx.refl H) _ fun v H1 e kd => k H1 e
theorem sd_if {b : Bool} (h : Eb t σ H b) (h1 : b = true → ∀ H1, Ex H H1 → tu D σ H1) (h2 : b = false → ∀ H1, Ex H H1 → tw D σ H1) : tIfS t tu tw D σ H := h H (Tx.refl H) _ fun H1 e => by
  cases b with
  | true =>
    show tu D σ H1
    exact h1 rfl H1 e
  | false =>
    show tw D σ H1
    exact h2 rfl H1 e
theorem sd_aug {i : Nat} {f : Int → Int → Int} {a b : Int} (hx : σ[i]? = some (some (.int a))) (h : Ed K te σ H (.int b)) (k : ∀ H1, Ex H H1 → D.nx (σ.set i (some (.int (f a b)))) H1) : tAug i te (ipI f) D σ H :=
  ⟨.int a, hx, h H (Tx.refl H) _ fun v H1 e kv => by
    cases kv
    exact ⟨a, b, rfl, rfl, k H1 e⟩⟩
/-- a, b = e -/
theorem sd_un2 {i j : Nat} {d1 d2 : PyData} (h : Ed K te σ H (.tuple [d1, d2])) (k : ∀ v u H1, Ex H H1 → Dt K H1 v d1 → Dt K H1 u d2 → D.nx ((σ.set i (some v)).set j (some u)) H1) : tAsg te (gTup K 2 (gCons (gName i) (gCons (gName j) gNil))) D σ H :=
  h H (Tx.refl H) _ fun v H1 e kd => by
    cases kd with
    | @tup a xs _ ha hA =>
      cases hA with
      | cons k1 hA => cases hA with
        | cons k2 hA =>
          cases hA
          exact ⟨a, _, rfl, ha, rfl, _, _, rfl, _, _, rfl, rfl, k _ _ H1 e k1 k2⟩
theorem sd_un3 {i j l : Nat} {d1 d2 d3 : PyData} (h : Ed K te σ H (.tuple [d1, d2, d3])) (k : ∀ v u w H1, Ex H H1 → Dt K H1 v d1 → Dt K H1 u d2 → Dt K H1 w d3 → D.nx (((σ.set i (some v)).set j (some u)).set l (some w)) H1) :
    tAsg te (gTup K 3 (gCons (gName i) (gCons (gName j) (gCons (gName l) gNil)))) D σ H :=
  h H (Tx.refl H) _ fun v H1 e kd => by
    cases kd with
    | @tup a xs _ ha hA =>
      cases hA with
      | cons k1 hA => cases hA with
        | cons k2 hA => cases hA with
          | cons k3 hA =>
            cases hA
            exact ⟨a, _, rfl, ha, rfl, _, _, rfl, _, _, rfl, _, _, rfl, rfl, k _ _ _ H1 e k1 k2 k3⟩
theorem sd_un4 {i j l m : Nat} {d1 d2 d3 d4 : PyData} (h : Ed K te σ H (.tuple [d1, d2, d3, d4])) (k : ∀ v u w z H1, Ex H H1 → Dt K H1 v d1 → Dt K H1 u d2 → Dt K H1 w d3 → Dt K H1 z d4 → D.nx ((((σ.set i (some v)).set j (some u)).set l (some w)).set m (some z)) H1) :
    tAsg te (gTup K 4 (gCons (gName i) (gCons (gName j) (gCons (gName l) (gCons (gName m) gNil))))) D σ H :=
  h H (Tx.refl H) _ fun v H1 e kd => by
    cases kd with
    | @tup a xs _ ha hA =>
      cases hA with
      | cons k1 hA => cases hA with
        | cons k2 hA => cases hA with
          | cons k3 hA => cases hA with
            | cons k4 hA =>
              cases hA
              exact ⟨a, _, rfl, ha, rfl, _, _, rfl, _, _, rfl, _, _, rfl, _, _, rfl, rfl, k _ _ _ _ H1 e k1 k2 k3 k4⟩
/-- a, b = e1, e2 stored at once -/
theorem sd_par {i j : Nat} {d1 d2 : PyData} (h1 : Ed K ta σ H d1) (h2 : Ed K tb σ H d2) (k : ∀ v u H1, Ex H H1 → Dt K H1 v d1 → Dt K H1 u d2 → D.nx ((σ.set i (some v)).set j (some u)) H1) : tPar i j (tCons ta (tCons tb tNil)) D σ H :=
  h1 H (Tx.refl H) _ fun v H1 e1 k1 => h2 H1 (.of e1) _ fun u H2 e2 k2 => ⟨v, u, rfl, k v u H2 (e1.trans e2) (k1.ex e2) k2⟩
theorem sd_par3 {i j l : Nat} {d1 d2 d3 : PyData} (h1 : Ed K ta σ H d1) (h2 : Ed K tb σ H d2) (h3 : Ed K te σ H d3) (k : ∀ v u w H1, Ex H H1 → Dt K H1 v d1 → Dt K H1 u d2 → Dt K H1 w d3 → D.nx (((σ.set i (some v)).set j (some u)).set l (some w)) H1) :
    tPar3 i j l (tCons ta (tCons tb (tCons te tNil))) D σ H :=
  h1 H (Tx.refl H) _ fun v H1 e1 k1 => h2 H1 (.of e1) _ fun u H2 e2 k2 => h3 H2 ((Tx.of e1).trans (.of e2)) _ fun w H3 e3 k3 => ⟨v, u, w, rfl, k v u w H3 ((e1.trans e2).trans e3) ((k1.ex e2).ex e3) (k2.ex e3) k3⟩
/-- for x in tuple -/
theorem sd_forT {j : Nat} (h : Ed K tl σ H (.tuple ds)) (k : ∀ H1, Ex H H1 → ∃ Pv : Nat → L2.St → Hp → Prop, Pv 0 σ H1 ∧ (∀ i σ' H', Pv i σ' H' → Tx H1 H') ∧
    (∀ i d v σ' H', ds[i]? = some d → Pv i σ' H' → Dt K H' v d → tu { D with nx := Pv (i + 1), ct := Pv (i + 1), bk := D.nx } (σ'.set j (some v)) H') ∧ ∀ σ' H', Pv ds.length σ' H' → D.nx σ' H') : tFor (iTup K tl) (gName j) tu D σ H :=
  h H (Tx.refl H) _ fun v H1 e kd => by
    cases kd with
    | @tup a xs _ ha hA =>
      obtain ⟨Pv, p0, pT, ps, pd⟩ := k H1 e
      refine ⟨a, rfl, ⟨xs, ha⟩, for_tup (xs := xs) Pv p0 (fun i σ' H' _ p => (pT i σ' H' p).sq ha) (fun i x σ' H' hx p => ?_) fun σ' H' p => pd σ' H' (by rw [← hA.len]; exact p)⟩
      obtain ⟨d, hd1, hd2⟩ := hA.get' hx
      exact ps i d x σ' H' hd1 p (hd2.at (pT i σ' H' p))
/-- for k, x in enumerate(tuple) -/
theorem sd_forE {ta : TA} {j l : Nat} (h : Ea K ta σ H [.tuple ds]) (k : ∀ H1, Ex H H1 → ∃ Pv : Nat → L2.St → Hp → Prop, Pv 0 σ H1 ∧ (∀ i σ' H', Pv i σ' H' → Tx H1 H') ∧
    (∀ i d v σ' H' H'', ds[i]? = some d → Pv i σ' H' → Ex H' H'' → Dt K H'' v d → tu { D with nx := Pv (i + 1), ct := Pv (i + 1), bk := D.nx } ((σ'.set j (some (.int (i : Int)))).set l (some v)) H'') ∧ ∀ σ' H', Pv ds.length σ' H' → D.nx σ' H') :
    tFor (iEnumT K ta) (gTup K 2 (gCons (gName j) (gCons (gName l) gNil))) tu D σ H :=
  h H (Tx.refl H) _ fun ws H1 e ks => by
    cases ks with
    | cons k1 ks =>
      cases ks
      cases k1 with
      | @tup a xs _ ha hA =>
        obtain ⟨Pv, p0, pT, ps, pd⟩ := k H1 e
        refine ⟨a, xs, rfl, ha, for_it (walk_enumT (K := K) (a := a) (xs := xs)) Pv p0 (fun i σ' H' _ p => (pT i σ' H' p).sq ha) (fun i v σ' Ha Hb hi p y => ?_) fun σ' H' p => pd σ' H' (by rw [← hA.len]; exact p)⟩
        obtain ⟨T, x, w, rfl, hT, rfl, h1, h2⟩ := y
        cases h1
        obtain ⟨d, hd1, hd2⟩ := hA.get' h2
        have eb : Ex Ha (upd Ha T (.tup [.int (i : Int), w])) := Ex.new hT
        exact ⟨T, _, rfl, st_of upd_same, rfl, _, _, rfl, _, _, rfl, rfl, ps i d w σ' Ha _ hd1 p eb ((hd2.at (pT i σ' Ha p)).ex eb)⟩
/-- for i in range(n) -/
theorem sd_forR {ta : TA} {j : Nat} {n : Nat} (h : Ea K ta σ H [.int (n : Int)]) (hn : n ≤ 100000) (k : ∀ H1, Ex H H1 → ∃ Pv : Nat → L2.St → Hp → Prop, Pv 0 σ H1 ∧
    (∀ i σ' H', i < n → Pv i σ' H' → tu { D with nx := Pv (i + 1), ct := Pv (i + 1), bk := D.nx } (σ'.set j (some (.int (i : Int)))) H') ∧ ∀ σ' H', Pv n σ' H' → D.nx σ' H') : tFor (iRng1 ta) (gName j) tu D σ H :=
  h H (Tx.refl H) _ fun ws H1 e ks => by
    cases ks with
    | cons k1 ks =>
      cases k1; cases ks
      obtain ⟨Pv, p0, ps, pd⟩ := k H1 e
      refine ⟨(n : Int), rfl, by omega, by omega, ?_⟩
      rw [Int.toNat_natCast]
      refine for_range (lo := 0) (n := n) Pv p0 (fun i σ' H' hi p => ?_) pd
      show tu _ (σ'.set j (some (.int (0 + (i : Int))))) H'
      rw [Int.zero_add]
      exact ps i σ' H' hi p
/-- for i in range(a, b) -/
theorem sd_forR2 {ta : TA} {j : Nat} {a b : Int} (h : Ea K ta σ H [.int a, .int b]) (h1 : -(2 ^ 62) ≤ a) (h2 : a < 2 ^ 62) (h3 : -(2 ^ 62) ≤ b) (h4 : b < 2 ^ 62) (k : ∀ H1, Ex H H1 → ∃ Pv : Nat → L2.St → Hp → Prop, Pv 0 σ H1 ∧
    (∀ i σ' H', i < (b - a).toNat → Pv i σ' H' → tu { D with nx := Pv (i + 1), ct := Pv (i + 1), bk := D.nx } (σ'.set j (some (.int (a + (i : Int))))) H') ∧ ∀ σ' H', Pv (b - a).toNat σ' H' → D.nx σ' H') : tFor (iRng2 ta) (gName j) tu D σ H :=
  h H (Tx.refl H) _ fun ws H1 e ks => by
    cases ks with
    | cons k1 ks => cases ks with
      | cons k2 ks =>
        cases k1; cases k2; cases ks
        obtain ⟨Pv, p0, ps, pd⟩ := k H1 e
        exact ⟨a, b, rfl, ⟨h1, h2, h3, h4⟩, for_range (lo := a) (n := (b - a).toNat) Pv p0 ps pd⟩
/-- while -/
theorem sd_while (W : Nat → L2.St → Hp → Prop) (m0 : Nat) (h0 : W m0 σ H)
    (hs : ∀ m σ' H', W m σ' H' → ∃ b, Eb t σ' H' b ∧ (b = true → ∀ H1, Ex H' H1 → ∃ N : L2.St → Hp → Prop, (∀ σ2 H2, N σ2 H2 → ∃ m', m' < m ∧ W m' σ2 H2) ∧ tu { D with nx := N, ct := N, bk := D.nx } σ' H1) ∧ (b = false → ∀ H1, Ex H' H1 → D.nx σ' H1)) : tWhile t tu D σ H :=
  ⟨W, ⟨m0, h0⟩, fun m σ' H' hw => by
    obtain ⟨b, hb, h1, h2⟩ := hs m σ' H' hw
    refine hb H' (Tx.refl H') _ fun H1 e => ?_
    cases b with
    | true => exact h1 rfl H1 e
    | false => exact h2 rfl H1 e⟩
end
/-- a statement, then the rest -/
theorem sq {t u : TS} {D : Ends} {σ : L2.St} {H : Hp} (h : t { D with nx := u D } σ H) : tSeq t u D σ H := h
end Dome
/-! Readings as data: isinstance, comprehensions over lists that stand for data. -/
namespace Dome
open PySem L2 Evl
section
variable {K : PySem.W.Frag} {σ : L2.St} {H H' : Hp} {ta tb te tx tl : TE} {t tt u : TT} {x y z d : PyData} {v : V} {r : R2} {ds es : List PyData}
theorem Dt.tyInt {i : Int} (h : Dt K H v (.int i)) : TyX K H v (.type "int") := by
  cases h
  exact .base (.int i)
theorem Dt.tyStr {i : Str} (h : Dt K H v (.str i)) : TyX K H v (.type "str") := by
  cases h
  exact .base (.str i)
theorem Dt.tyTup (h : Dt K H v (.tuple ds)) : TyX K H v (.type "tuple") := by
  cases h with
  | @tup a xs _ hs ha =>
    rcases hs with h | ⟨o, its, n, hk, hc, hd, _⟩
    · rcases h with h | ⟨o, h⟩
      · exact .base (.tup h)
      · exact .fTuple h
    · exact .kTuple hk hc
theorem ed_isi {T S : String} {b : Bool} (h : Ed K ta σ H d) (hy : ∀ v H1, Dt K H1 v d → TyX K H1 v (.type S)) (hb : kitB S T = some b) : Ed K (tCB (rIsi K) (tCons ta (tCons (tC (.ty T)) tNil))) σ H (.bool b) := fun H1 e Q q =>
  h H1 e _ fun v H2 e2 k => ⟨v, _, _, _, b, rfl, .ty T, hy v H2 k, kit_ty hb, q _ H2 e2 (.bl b)⟩
theorem ed_isiInt {i : Int} (h : Ed K ta σ H (.int i)) : Ed K (tCB (rIsi K) (tCons ta (tCons (tC (.ty "int")) tNil))) σ H (.bool true) := ed_isi (S := "int") h (fun _ _ k => k.tyInt) (by decide +kernel)
theorem ed_isiBool {i : Int} (h : Ed K ta σ H (.int i)) : Ed K (tCB (rIsi K) (tCons ta (tCons (tC (.ty "bool")) tNil))) σ H (.bool false) := ed_isi (S := "int") h (fun _ _ k => k.tyInt) (by decide +kernel)
theorem ed_isiTup (h : Ed K ta σ H (.tuple ds)) : Ed K (tCB (rIsi K) (tCons ta (tCons (tC (.ty "tuple")) tNil))) σ H (.bool true) := ed_isi (S := "tuple") h (fun _ _ k => k.tyTup) (by decide +kernel)
theorem ed_isiStr {i : Str} (h : Ed K ta σ H (.str i)) : Ed K (tCB (rIsi K) (tCons ta (tCons (tC (.ty "str")) tNil))) σ H (.bool true) := ed_isi (S := "str") h (fun _ _ k => k.tyStr) (by decide +kernel)

/-! ### comprehensions over a list's picture -/
theorem getD_map {α : Type} {enc : α → PyData} {xs : List α} {i : Nat} {a : α} (h : xs[i]? = some a) : (xs.map enc).getD i .none = enc a := by
  rw [List.getD_eq_getElem?_getD, List.getElem?_map, h]
  rfl
theorem el_mapF {α : Type} {xs : List α} {enc : α → PyData} {j : Nat} {vs : List Nat} (f : α → Bool) (g : α → PyData) (h : Ed K tl σ H (.tuple (xs.map enc))) (hw : ∀ x, wipe ((wipe σ vs).set j (some x)) vs = wipe σ vs)
    (ht : ∀ a ∈ xs, ∀ v H1, Tx H H1 → Dt K H1 v (enc a) → Eb tt ((wipe σ vs).set j (some v)) H1 (f a)) (he : ∀ a ∈ xs, f a = true → ∀ v H1, Tx H H1 → Dt K H1 v (enc a) → Ed K te ((wipe σ vs).set j (some v)) H1 (g a)) (hl : xs.length ≤ 10000) :
    El K (tLc (iTup K tl) (gName j) tt te vs) σ H ((xs.filter f).map g) := by
  have e0 : giv (fun i => match xs[i]? with | some a => f a | none => false) (fun i => match xs[i]? with | some a => g a | none => .none) xs.length = (xs.filter f).map g := giv_list xs fun i a ha => by
    rw [ha]
    exact ⟨rfl, rfl⟩
  rw [← e0]
  refine el_lcN (J := Itt K 0) (G := fun _ => True) (fun i => (xs.map enc).getD i .none) _ _ (fun H1 e R q => h H1 e _ fun v H2 e2 k => ?_) hl hw (fun i hi v H1 t k => ?_) (fun i hi hf v H1 t k => ?_)
  · cases k with
    | @tup a ws _ ha hA =>
      refine ⟨a, rfl, ⟨ws, ha⟩, q (Itt K a) (fun H => SqT K H a ws) (fun i => ws.getD i .non) H2 e2 ?_ ha (fun Ha Hb _ eb _ => ex_t eb ha) fun i hi => ?_⟩
      · have hl2 := hA.len
        rw [List.length_map] at hl2
        rw [← hl2]
        exact walk_tup.mono (fun _ h => h) fun i H x H' hi _ y => ⟨y.1, by rw [List.getD_eq_getElem?_getD, y.2]; rfl⟩
      · obtain ⟨w, hw1, hw2⟩ := hA.get (i := i) (d := (xs.map enc).getD i .none) (by rw [List.getD_eq_getElem?_getD, List.getElem?_eq_getElem (by rw [List.length_map]; exact hi)]; rfl)
        rw [List.getD_eq_getElem?_getD, hw1]
        exact hw2
  · have ei : xs[i]? = some xs[i] := List.getElem?_eq_getElem hi
    rw [getD_map ei] at k
    rw [ei]
    exact ht _ (List.getElem_mem hi) v H1 t k
  · have ei : xs[i]? = some xs[i] := List.getElem?_eq_getElem hi
    rw [getD_map ei] at k
    rw [ei] at hf ⊢
    exact he _ (List.getElem_mem hi) hf v H1 t k
theorem el_mapT {α : Type} {xs : List α} {enc : α → PyData} {j : Nat} {vs : List Nat} (g : α → PyData) (h : Ed K tl σ H (.tuple (xs.map enc))) (hw : ∀ x, wipe ((wipe σ vs).set j (some x)) vs = wipe σ vs)
    (he : ∀ a ∈ xs, ∀ v H1, Tx H H1 → Dt K H1 v (enc a) → Ed K te ((wipe σ vs).set j (some v)) H1 (g a)) (hl : xs.length ≤ 10000) :
    El K (tLc (iTup K tl) (gName j) tYes te vs) σ H (xs.map g) := by
  have h1 := el_mapF (tt := tYes) (te := te) (fun _ => true) g h hw (fun _ _ _ _ _ _ => eb_yes) (fun a ha _ => he a ha) hl
  have e : xs.filter (fun _ => true) = xs := List.filter_eq_self.mpr fun _ _ => rfl
  rw [e] at h1
  exact h1
/-- with numbers: which give, and what -/
def gvL {α : Type} (f : Nat → α → Bool) (g : Nat → α → PyData) : Nat → List α → List PyData
  | _, [] => []
  | k, x :: r => if f k x then g k x :: gvL f g (k + 1) r else gvL f g (k + 1) r
theorem giv_gvL {α : Type} {f' : Nat → Bool} {g' : Nat → PyData} {f : Nat → α → Bool} {g : Nat → α → PyData} : ∀ (xs : List α) (k : Nat), (∀ i a, xs[i]? = some a → f' (k + i) = f (k + i) a ∧ g' (k + i) = g (k + i) a) →
    giv (fun i => f' (k + i)) (fun i => g' (k + i)) xs.length = gvL f g k xs := by
  intro xs
  have snoc : ∀ (n : Nat) (F : Nat → Bool) (G : Nat → PyData), giv F G (n + 1) = (if F 0 = true then [G 0] else []) ++ giv (fun i => F (i + 1)) (fun i => G (i + 1)) n := by
    intro n F G
    induction n with
    | zero => unfold giv giv; rw [List.nil_append, List.append_nil]
    | succ n ih =>
      rw [giv, ih, giv, List.append_assoc]
  induction xs with
  | nil => intro _ _; rfl
  | cons x r ih =>
    intro k h
    rw [List.length_cons, snoc]
    have h0 := h 0 x rfl
    have e1 : (fun i => f' (k + (i + 1))) = fun i => f' (k + 1 + i) := by funext i; congr 1; omega
    have e2 : (fun i => g' (k + (i + 1))) = fun i => g' (k + 1 + i) := by funext i; congr 1; omega
    rw [e1, e2, ih (k + 1) fun i a ha => by
      have := h (i + 1) a (by simpa using ha)
      rw [show k + 1 + i = k + (i + 1) by omega]
      exact this]
    rw [Nat.add_zero] at h0
    rw [Nat.add_zero, h0.1, h0.2, gvL]
    by_cases q : f k x = true
    · rw [if_pos q, if_pos q]; rfl
    · rw [if_neg q, if_neg q]; rfl
def atF {α : Type} (f : Nat → α → Bool) (xs : List α) (i : Nat) : Bool := match xs[i]? with
  | some a => f i a
  | none => false
def atG {α : Type} (g : Nat → α → PyData) (xs : List α) (i : Nat) : PyData := match xs[i]? with
  | some a => g i a
  | none => .none
theorem atF_some {α : Type} {f : Nat → α → Bool} {xs : List α} {i : Nat} {a : α} (h : xs[i]? = some a) : atF f xs i = f i a := by unfold atF; rw [h]
theorem atG_some {α : Type} {g : Nat → α → PyData} {xs : List α} {i : Nat} {a : α} (h : xs[i]? = some a) : atG g xs i = g i a := by unfold atG; rw [h]
theorem el_mapE {α : Type} {xs : List α} {enc : α → PyData} {ta : TA} {j k : Nat} {vs : List Nat} (f : Nat → α → Bool) (g : Nat → α → PyData) (h : Ea K ta σ H [.tuple (xs.map enc)]) (hl : xs.length ≤ 10000) (hw : ∀ x y, wipe (((wipe σ vs).set j (some x)).set k (some y)) vs = wipe σ vs)
    (ht : ∀ (i : Nat) a, xs[i]? = some a → ∀ u H1, Tx H H1 → Dt K H1 u (enc a) → Eb tt (((wipe σ vs).set j (some (.int (i : Int)))).set k (some u)) H1 (f i a))
    (he : ∀ (i : Nat) a, xs[i]? = some a → f i a = true → ∀ u H1, Tx H H1 → Dt K H1 u (enc a) → Ed K te (((wipe σ vs).set j (some (.int (i : Int)))).set k (some u)) H1 (g i a)) :
    El K (tLc (iEnumT K ta) (gTup K 2 (gCons (gName j) (gCons (gName k) gNil))) tt te vs) σ H (gvL f g 0 xs) := by
  have e0 : giv (atF f xs) (atG g xs) xs.length = gvL f g 0 xs := by
    have h1 := giv_gvL (f' := atF f xs) (g' := atG g xs) (f := f) (g := g) xs 0 fun i a ha => by
      rw [Nat.zero_add]
      exact ⟨atF_some ha, atG_some ha⟩
    have e1 : (fun i => atF f xs (0 + i)) = atF f xs := by funext i; rw [Nat.zero_add]
    have e2 : (fun i => atG g xs (0 + i)) = atG g xs := by funext i; rw [Nat.zero_add]
    rw [e1, e2] at h1
    exact h1
  have el := List.length_map (as := xs) enc
  rw [← e0, ← el]
  refine el_lcE _ _ h (by rw [el]; exact hl) hw (fun i hi u H1 t kd => ?_) (fun i hi hf u H1 t kd => ?_)
  · rw [el] at hi
    have ei : xs[i]? = some xs[i] := List.getElem?_eq_getElem hi
    rw [getD_map ei] at kd
    rw [atF_some ei]
    exact ht i _ ei u H1 t kd
  · rw [el] at hi
    have ei : xs[i]? = some xs[i] := List.getElem?_eq_getElem hi
    rw [getD_map ei] at kd
    rw [atF_some ei] at hf
    rw [atG_some ei]
    exact he i _ ei hf u H1 t kd
theorem giv_range (g : Nat → PyData) : ∀ n, giv (fun _ => true) g n = (List.range n).map g
  | 0 => rfl
  | n + 1 => by rw [giv, giv_range g n, List.range_succ, List.map_append, if_pos rfl]; rfl
/-- over range(n), all -/
theorem el_mapR {ta : TA} {j : Nat} {vs : List Nat} {n : Nat} (g : Nat → PyData) (h : Ea K ta σ H [.int (n : Int)]) (hw : ∀ x, wipe ((wipe σ vs).set j (some x)) vs = wipe σ vs) (hn : n ≤ 10000)
    (he : ∀ i, i < n → ∀ H1, Tx H H1 → Ed K te ((wipe σ vs).set j (some (.int (i : Int)))) H1 (g i)) :
    El K (tLc (iRng1 ta) (gName j) tYes te vs) σ H ((List.range n).map g) := by
  rw [← giv_range]
  exact el_lcR _ g h hw hn (fun _ _ _ _ => eb_yes) fun i hi _ => he i hi
theorem ed_allT {α : Type} {xs : List α} (h : El K ta σ H (xs.map fun _ => .bool true)) : Ed K (tCB (rAll K) (tCons ta tNil)) σ H (.bool true) := by
  have h1 : Ed K (tCB (rAll K) (tCons ta tNil)) σ H (.bool ((xs.map fun _ => true).all id)) := ed_all (by rw [List.map_map]; exact h)
  have e : (xs.map fun _ => true).all id = true := by rw [List.all_map]; exact List.all_eq_true.mpr fun _ _ => rfl
  rw [e] at h1
  exact h1
theorem ed_allF {α : Type} {xs : List α} {f : α → Bool} (h : El K ta σ H (xs.map fun a => .bool (f a))) : Ed K (tCB (rAll K) (tCons ta tNil)) σ H (.bool (xs.all f)) := by
  have h1 : Ed K (tCB (rAll K) (tCons ta tNil)) σ H (.bool ((xs.map f).all id)) := ed_all (by rw [List.map_map]; exact h)
  rw [List.all_map] at h1
  exact h1
end
/-! ### a statement, then the rest -/
section
variable {K : PySem.W.Frag} {σ : L2.St} {H H' : Hp} {ta tb te tx tl : TE} {t tt : TT} {x y z d d1 d2 d3 d4 : PyData} {v : V} {ds es : List PyData} {D : Ends} {tu tw u : TS} {i j l m : Nat}
theorem sq_asg (h : Ed K te σ H d) (k : ∀ v H1, Ex H H1 → Dt K H1 v d → u D (σ.set i (some v)) H1) : tSeq (tAsg te (gName i)) u D σ H := sd_asg (D := { D with nx := u D }) h k
theorem sq_asgL (h : El K te σ H ds) (k : ∀ p xs H1, H p = none → Ex H H1 → H1 p = some (.lst xs) → DtA K H1 xs ds → u D (σ.set i (some (.ref p))) H1) : tSeq (tAsg te (gName i)) u D σ H := sd_asgL (D := { D with nx := u D }) h k
theorem sq_drop (h : Ed K te σ H d) (k : ∀ H1, Ex H H1 → u D σ H1) : tSeq (tDrop te) u D σ H := sd_drop (D := { D with nx := u D }) h k
theorem sq_if {b : Bool} (h : Eb t σ H b) (h1 : b = true → ∀ H1, Ex H H1 → tu { D with nx := u D } σ H1) (h2 : b = false → ∀ H1, Ex H H1 → tw { D with nx := u D } σ H1) : tSeq (tIfS t tu tw) u D σ H := sd_if (D := { D with nx := u D }) h h1 h2
/-- if .., the one branch; else nothing -/
theorem sq_ifN {b : Bool} (h : Eb t σ H b) (h1 : b = true → ∀ H1, Ex H H1 → tu { D with nx := u D } σ H1) (h2 : b = false → ∀ H1, Ex H H1 → u D σ H1) : tSeq (tIfS t tu tNext) u D σ H := sd_if (D := { D with nx := u D }) h h1 h2
theorem sq_no (h : Eb t σ H false) (h2 : ∀ H1, Ex H H1 → u D σ H1) : tSeq (tIfS t tu tNext) u D σ H := sd_if (D := { D with nx := u D }) h (fun e => nomatch e) fun _ => h2
theorem sd_no (h : Eb t σ H false) (h2 : ∀ H1, Ex H H1 → D.nx σ H1) : tIfS t tu tNext D σ H := sd_if h (fun e => nomatch e) fun _ => h2
theorem sq_aug {f : Int → Int → Int} {a b : Int} (hx : σ[i]? = some (some (.int a))) (h : Ed K te σ H (.int b)) (k : ∀ H1, Ex H H1 → u D (σ.set i (some (.int (f a b)))) H1) : tSeq (tAug i te (ipI f)) u D σ H := sd_aug (D := { D with nx := u D }) hx h k
theorem sq_un2 (h : Ed K te σ H (.tuple [d1, d2])) (k : ∀ v u' H1, Ex H H1 → Dt K H1 v d1 → Dt K H1 u' d2 → u D ((σ.set i (some v)).set j (some u')) H1) : tSeq (tAsg te (gTup K 2 (gCons (gName i) (gCons (gName j) gNil)))) u D σ H := sd_un2 (D := { D with nx := u D }) h k
theorem sq_un3 (h : Ed K te σ H (.tuple [d1, d2, d3])) (k : ∀ v u' w H1, Ex H H1 → Dt K H1 v d1 → Dt K H1 u' d2 → Dt K H1 w d3 → u D (((σ.set i (some v)).set j (some u')).set l (some w)) H1) :
    tSeq (tAsg te (gTup K 3 (gCons (gName i) (gCons (gName j) (gCons (gName l) gNil))))) u D σ H := sd_un3 (D := { D with nx := u D }) h k
theorem sq_un4 (h : Ed K te σ H (.tuple [d1, d2, d3, d4])) (k : ∀ v u' w z H1, Ex H H1 → Dt K H1 v d1 → Dt K H1 u' d2 → Dt K H1 w d3 → Dt K H1 z d4 → u D ((((σ.set i (some v)).set j (some u')).set l (some w)).set m (some z)) H1) :
    tSeq (tAsg te (gTup K 4 (gCons (gName i) (gCons (gName j) (gCons (gName l) (gCons (gName m) gNil)))))) u D σ H := sd_un4 (D := { D with nx := u D }) h k
theorem sq_par (h1 : Ed K ta σ H d1) (h2 : Ed K tb σ H d2) (k : ∀ v u' H1, Ex H H1 → Dt K H1 v d1 → Dt K H1 u' d2 → u D ((σ.set i (some v)).set j (some u')) H1) : tSeq (tPar i j (tCons ta (tCons tb tNil))) u D σ H := sd_par (D := { D with nx := u D }) h1 h2 k
theorem sq_par3 (h1 : Ed K ta σ H d1) (h2 : Ed K tb σ H d2) (h3 : Ed K te σ H d3) (k : ∀ v u' w H1, Ex H H1 → Dt K H1 v d1 → Dt K H1 u' d2 → Dt K H1 w d3 → u D (((σ.set i (some v)).set j (some u')).set l (some w)) H1) :
    tSeq (tPar3 i j l (tCons ta (tCons tb (tCons te tNil)))) u D σ H := sd_par3 (D := { D with nx := u D }) h1 h2 h3 k
theorem sq_forT (h : Ed K tl σ H (.tuple ds)) (k : ∀ H1, Ex H H1 → ∃ Pv : Nat → L2.St → Hp → Prop, Pv 0 σ H1 ∧ (∀ i σ' H', Pv i σ' H' → Tx H1 H') ∧
    (∀ i d v σ' H', ds[i]? = some d → Pv i σ' H' → Dt K H' v d → tu { D with nx := Pv (i + 1), ct := Pv (i + 1), bk := u D } (σ'.set j (some v)) H') ∧ ∀ σ' H', Pv ds.length σ' H' → u D σ' H') : tSeq (tFor (iTup K tl) (gName j) tu) u D σ H := sd_forT (D := { D with nx := u D }) h k
theorem sq_forE {ta : TA} (h : Ea K ta σ H [.tuple ds]) (k : ∀ H1, Ex H H1 → ∃ Pv : Nat → L2.St → Hp → Prop, Pv 0 σ H1 ∧ (∀ i σ' H', Pv i σ' H' → Tx H1 H') ∧
    (∀ i d v σ' H' H'', ds[i]? = some d → Pv i σ' H' → Ex H' H'' → Dt K H'' v d → tu { D with nx := Pv (i + 1), ct := Pv (i + 1), bk := u D } ((σ'.set j (some (.int (i : Int)))).set l (some v)) H'') ∧ ∀ σ' H', Pv ds.length σ' H' → u D σ' H') :
    tSeq (tFor (iEnumT K ta) (gTup K 2 (gCons (gName j) (gCons (gName l) gNil))) tu) u D σ H := sd_forE (D := { D with nx := u D }) h k
theorem sq_forR {ta : TA} {n : Nat} (h : Ea K ta σ H [.int (n : Int)]) (hn : n ≤ 100000) (k : ∀ H1, Ex H H1 → ∃ Pv : Nat → L2.St → Hp → Prop, Pv 0 σ H1 ∧
    (∀ i σ' H', i < n → Pv i σ' H' → tu { D with nx := Pv (i + 1), ct := Pv (i + 1), bk := u D } (σ'.set j (some (.int (i : Int)))) H') ∧ ∀ σ' H', Pv n σ' H' → u D σ' H') : tSeq (tFor (iRng1 ta) (gName j) tu) u D σ H := sd_forR (D := { D with nx := u D }) h hn k
theorem sq_forR2 {ta : TA} {a b : Int} (h : Ea K ta σ H [.int a, .int b]) (h1 : -(2 ^ 62) ≤ a) (h2 : a < 2 ^ 62) (h3 : -(2 ^ 62) ≤ b) (h4 : b < 2 ^ 62) (k : ∀ H1, Ex H H1 → ∃ Pv : Nat → L2.St → Hp → Prop, Pv 0 σ H1 ∧
    (∀ i σ' H', i < (b - a).toNat → Pv i σ' H' → tu { D with nx := Pv (i + 1), ct := Pv (i + 1), bk := u D } (σ'.set j (some (.int (a + (i : Int))))) H') ∧ ∀ σ' H', Pv (b - a).toNat σ' H' → u D σ' H') : tSeq (tFor (iRng2 ta) (gName j) tu) u D σ H := sd_forR2 (D := { D with nx := u D }) h h1 h2 h3 h4 k
theorem sq_while (W : Nat → L2.St → Hp → Prop) (m0 : Nat) (h0 : W m0 σ H)
    (hs : ∀ m σ' H', W m σ' H' → ∃ b, Eb t σ' H' b ∧ (b = true → ∀ H1, Ex H' H1 → ∃ N : L2.St → Hp → Prop, (∀ σ2 H2, N σ2 H2 → ∃ m', m' < m ∧ W m' σ2 H2) ∧ tu { D with nx := N, ct := N, bk := u D } σ' H1) ∧ (b = false → ∀ H1, Ex H' H1 → u D σ' H1)) : tSeq (tWhile t tu) u D σ H := sd_while (D := { D with nx := u D }) W m0 h0 hs
end
end Dome
/-! Readings as data: in, a list that a name holds, lists of new pairs, two fors. -/
namespace Dome
open PySem L2 Evl
section
variable {K : PySem.W.Frag} {σ : L2.St} {H H' : Hp} {ta tb te tx tl : TE} {t tt : TT} {x y z d : PyData} {v : V} {ds es : List PyData} {D : Ends} {tu tw u : TS}
theorem yes_if {A B : Hp → Prop} (h : A H) : tYes σ H (fun b H3 => if b = true then A H3 else B H3) := by
  show (if true = true then A H else B H)
  rw [if_pos rfl]
  exact h
theorem inV_ints (i : Int) (ns : List Int) : inV (.int i) (ns.map V.int) = decide (i ∈ ns) := by
  unfold inV
  rw [List.any_map]
  induction ns with
  | nil => simp
  | cons a r ih =>
    rw [List.any_cons, ih]
    have e : (((fun y => eqV y (V.int i)) ∘ V.int) a) = decide (a = i) := by
      show eqV (V.int a) (V.int i) = _
      rfl
    rw [e]
    by_cases h : a = i
    · subst h; simp
    · have h2 : ¬ i = a := fun z => h z.symm
      simp [h, h2]
theorem flat_ints (ns : List Int) : (ns.map V.int).all flatV = true := by
  rw [List.all_map]
  exact List.all_eq_true.mpr fun _ _ => rfl
theorem ed_in {i : Int} {ns : List Int} (ha : Ed K ta σ H (.int i)) (hb : Ed K tb σ H (.tuple (ns.map .int))) : Ed K (tOp (rIn K false) ta tb) σ H (.bool (decide (i ∈ ns))) :=
  ed_op ha hb fun v u H1 _ hv hu Q q => by
    cases hv
    cases hu with
    | @tup a xs _ hs hA =>
      have e := hA.ints
      subst e
      refine ⟨a, ns.map V.int, rfl, .inr hs, rfl, flat_ints ns, ?_⟩
      show Q (.bl (inV (.int i) (ns.map V.int))) H1
      rw [inV_ints]
      exact q _ H1 (Ex.refl H1) (.bl _)
theorem eb_s {i j : Str} {b : Bool} (ha : Ed K ta σ H (.str i)) (h : decide (i = j) = b := by decide +kernel) : Eb (tTest (tOp rEq ta (tC (.str j)))) σ H b := eb_is (eb_val (ed_eqS ha ed_str)) h
theorem eb_sn {i j : Str} {b : Bool} (ha : Ed K ta σ H (.str i)) (h : decide (i = j) = !b := by decide +kernel) : Eb (tTest (tOp rNe ta (tC (.str j)))) σ H b := eb_is (eb_val (ed_neS ha ed_str)) (by rw [h, Bool.not_not])
/-! ### at this heap (a list may be read) -/
/-- the test at this heap -/
def Xb (tt : TT) (σ : L2.St) (H : Hp) (b : Bool) : Prop := ∀ Q : Bool → Hp → Prop, (∀ H2, Ex H H2 → Q b H2) → tt σ H Q
def Xd (K : PySem.W.Frag) (te : TE) (σ : L2.St) (H : Hp) (d : PyData) : Prop := ∀ Q : VK, (∀ v H2, Ex H H2 → Dt K H2 v d → Q v H2) → te σ H Q
theorem Eb.at1 {b : Bool} (h : Eb t σ H b) : Xb t σ H b := fun Q q => h H (Tx.refl H) Q q
theorem Ed.at1 (h : Ed K te σ H d) : Xd K te σ H d := fun Q q => h H (Tx.refl H) Q q
theorem sq_ifX {b : Bool} (h : Xb t σ H b) (h1 : b = true → ∀ H1, Ex H H1 → tu { D with nx := u D } σ H1) (h2 : b = false → ∀ H1, Ex H H1 → tw { D with nx := u D } σ H1) : tSeq (tIfS t tu tw) u D σ H := h _ fun H1 e => by
  cases b with
  | true =>
    show tu _ σ H1
    exact h1 rfl H1 e
  | false =>
    show tw _ σ H1
    exact h2 rfl H1 e
theorem sd_retX (h : Xd K te σ H d) (k : ∀ v H1, Ex H H1 → Dt K H1 v d → D.rt v H1) : tRet te D σ H := h _ fun v H1 e kd => k v H1 e kd
theorem xb_gt {i j : Int} (ha : Xd K ta σ H (.int i)) (hb : ∀ H1, Ex H H1 → Xd K tb σ H1 (.int j)) : Xd K (tOp rGtI ta tb) σ H (.bool (decide (j < i))) := fun Q q => ha _ fun v H2 e2 kv => hb H2 e2 _ fun w H3 e3 kw => by
  cases kv; cases kw
  exact ⟨i, j, rfl, rfl, q _ H3 (e2.trans e3) (.bl _)⟩
theorem xd_sub {i j : Int} (ha : Xd K ta σ H (.int i)) (hb : ∀ H1, Ex H H1 → Xd K tb σ H1 (.int j)) : Xd K (tOp rMinus ta tb) σ H (.int (i - j)) := fun Q q => ha _ fun v H2 e2 kv => hb H2 e2 _ fun w H3 e3 kw => by
  cases kv; cases kw
  exact ⟨i, j, rfl, rfl, q _ H3 (e2.trans e3) (.int _)⟩
theorem xb_val {b : Bool} (h : Xd K te σ H (.bool b)) : Xb (tTest te) σ H b := fun Q q => h _ fun v H2 e2 k => by
  cases k
  exact ⟨b, rfl, q H2 e2⟩
theorem xd_if {b : Bool} (h : Xb t σ H b) (h1 : b = true → ∀ H1, Ex H H1 → Xd K ta σ H1 d) (h2 : b = false → ∀ H1, Ex H H1 → Xd K tb σ H1 d) : Xd K (tIf t ta tb) σ H d := fun Q q => h _ fun H2 e2 => by
  cases b with
  | true =>
    show ta σ H2 Q
    exact h1 rfl H2 e2 Q fun v H3 e3 k => q v H3 (e2.trans e3) k
  | false =>
    show tb σ H2 Q
    exact h2 rfl H2 e2 Q fun v H3 e3 k => q v H3 (e2.trans e3) k
/-- a name holds a list of ints -/
structure Ln (σ : L2.St) (H : Hp) (i : Nat) (p : Addr) (ns : List Int) : Prop where
  v : σ[i]? = some (some (.ref p))
  h : H p = some (.lst (ns.map V.int))
theorem Ln.ex {i : Nat} {p : Addr} {ns : List Int} (l : Ln σ H i p ns) (e : Ex H H') : Ln σ H' i p ns := ⟨l.v, e _ _ l.h⟩
/-- a list == [] -/
theorem xb_nil {i : Nat} {p : Addr} {ns : List Int} (l : Ln σ H i p ns) : Xb (tTest (tOp (rEqD K) (tVar i) (tLst tNil))) σ H (decide (ns = [])) := fun Q q =>
  ⟨_, l.v, sz_of (by decide), fun p' hp => by
    have e : Ex H (upd H p' (.lst [])) := Ex.new hp
    refine ⟨.list (ns.map .int), .list [], .lst (sq_of (e _ _ l.h)) (DtA.dp _ _ (DtA.ofInts ns)), .lst (sq_of upd_same) .nil, ?_, rfl, _, rfl, ?_⟩
    · have : ∀ ns : List Int, SeqAt.shaped (.list (ns.map .int)) = true := by
        intro ns
        induction ns with
        | nil => rfl
        | cons a r ih => exact ih
      exact this ns
    · have eq : PyData.eqv (.list (ns.map .int)) (.list []) = decide (ns = []) := by cases ns <;> rfl
      rw [eq]
      exact q _ e⟩
theorem xd_max {i : Nat} {p : Addr} {ns : List Int} (l : Ln σ H i p ns) (hn : ns ≠ []) {m : Int} (hm : ∀ k, k ∈ ns → (∀ y, y ∈ ns → y ≤ k) → k = m) : Xd K (tCB (rMax K) (tCons (tVar i) tNil)) σ H (.int m) := fun Q q =>
  ⟨_, l.v, p, ns, rfl, sq_of l.h, by cases ns with | nil => exact absurd rfl hn | cons a r => exact Nat.succ_pos _, fun k h1 h2 => q _ H (Ex.refl H) (by rw [hm k h1 h2]; exact .int _)⟩
theorem xd_min {i : Nat} {p : Addr} {ns : List Int} (l : Ln σ H i p ns) (hn : ns ≠ []) {m : Int} (hm : ∀ k, k ∈ ns → (∀ y, y ∈ ns → k ≤ y) → k = m) : Xd K (tCB (rMin K) (tCons (tVar i) tNil)) σ H (.int m) := fun Q q =>
  ⟨_, l.v, p, ns, rfl, sq_of l.h, by cases ns with | nil => exact absurd rfl hn | cons a r => exact Nat.succ_pos _, fun k h1 h2 => q _ H (Ex.refl H) (by rw [hm k h1 h2]; exact .int _)⟩
/-- max([abs(x) for x in a list]) -/
theorem xd_maxAbs {i j : Nat} {vs : List Nat} {p : Addr} {ns : List Int} (l : Ln σ H i p ns) (hl : ns.length ≤ 10000) (hn : ns ≠ []) (hw : ∀ x, wipe ((wipe σ vs).set j (some x)) vs = wipe σ vs)
    (he : ∀ k H1, Ed K te ((wipe σ vs).set j (some (.int k))) H1 (.int (absI k))) {m : Int} (hm : ∀ k, k ∈ ns.map absI → (∀ y, y ∈ ns.map absI → y ≤ k) → k = m) :
    Xd K (tCB (rMax K) (tCons (tLc (iList K (tVar i)) (gName j) tYes te vs) tNil)) σ H (.int m) := fun Q q => by
  refine ⟨.ref p, l.v, p, rfl, ⟨_, sq_of l.h⟩, fun D hD => ?_⟩
  refine lc_it ((walk_list (K := K) (a := p) (xs := ns.map V.int)).mono (G' := fun H' => Ex H H') (Y' := fun i H x H' => H' = H ∧ (ns.map V.int)[i]? = some x) (fun H' h => sq_of (h _ _ l.h)) (fun _ _ _ _ _ _ y => y)) (fun i H' => Acc K H D (((ns.map absI).take i).map .int) H') (Acc.start hD) (fun i H' _ p => p.2.1) (fun i v Ha Hb hi' pa y => ?_) fun H' pa => ?_
  · obtain ⟨rfl, yv⟩ := y
    refine ⟨hw _, ?_⟩
    rw [List.length_map] at hi'
    have ei : ns[i]? = some ns[i] := List.getElem?_eq_getElem hi'
    rw [List.getElem?_map, ei] at yv
    cases yv
    have el : ((ns.map absI).take i).map PyData.int ++ (if true = true then [PyData.int (absI ns[i])] else []) = ((ns.map absI).take (i + 1)).map PyData.int := by
      rw [if_pos rfl, List.take_succ_eq_append_getElem (by rw [List.length_map]; exact hi'), List.map_append, List.getElem_map]
      rfl
    refine acc_turn pa ?_ (eb_yes) (fun _ => he _ _) fun H' a => ?_
    · rw [List.length_map, List.length_take, List.length_map]; omega
    · rw [← el]; exact a
  · obtain ⟨p1, p2, _, acc, p4, p5⟩ := pa
    have e0 : (ns.map absI).take (ns.map V.int).length = ns.map absI := by rw [List.length_map, ← List.length_map (f := absI), List.take_length]
    rw [e0] at p5
    have e1 := p5.ints
    subst e1
    refine ⟨D, ns.map absI, rfl, sq_of p4, ?_, fun k h1 h2 => q _ H' p2 (by rw [hm k h1 h2]; exact .int _)⟩
    rw [List.length_map]
    cases ns with
    | nil => exact absurd rfl hn
    | cons a r => exact Nat.succ_pos _

/-! ### a list of new pairs -/
def AccP (K : PySem.W.Frag) (H0 : Hp) (D : Addr) (ps : List (Int × Int)) (H : Hp) : Prop := H0 D = none ∧ Ex H0 H ∧ ps.length ≤ 100000 ∧ ∃ acc, H D = some (.lst acc) ∧ Paired (fun (v : V) (q : Int × Int) => ∃ t, v = .ref t ∧ H t = some (.tup [.int q.1, .int q.2])) acc ps
theorem paired_mono {α β : Type} {R R' : α → β → Prop} (h : ∀ a b, R a b → R' a b) : ∀ {xs : List α} {ys : List β}, Paired R xs ys → Paired R' xs ys
  | _, _, .nil => .nil
  | _, _, .cons r t => .cons (h _ _ r) (paired_mono h t)
theorem paired_snoc {α β : Type} {R : α → β → Prop} {a : α} {b : β} (h : R a b) : ∀ {xs : List α} {ys : List β}, Paired R xs ys → Paired R (xs ++ [a]) (ys ++ [b])
  | _, _, .nil => .cons h .nil
  | _, _, .cons r t => .cons r (paired_snoc h t)
theorem paired_len {α β : Type} {R : α → β → Prop} : ∀ {xs : List α} {ys : List β}, Paired R xs ys → xs.length = ys.length
  | _, _, .nil => rfl
  | _, _, .cons _ t => congrArg (· + 1) (paired_len t)
theorem elp_lc {j : Nat} {vs : List Nat} {ns : List Int} (g : Int → Int × Int) (h : Ed K tl σ H (.tuple (ns.map .int))) (hw : ∀ x, wipe ((wipe σ vs).set j (some x)) vs = wipe σ vs)
    (ha : ∀ k ∈ ns, ∀ H1, Tx H H1 → Ed K ta ((wipe σ vs).set j (some (.int k))) H1 (.int (g k).1)) (hb : ∀ k ∈ ns, ∀ H1, Tx H H1 → Ed K tb ((wipe σ vs).set j (some (.int k))) H1 (.int (g k).2)) (hl : ns.length ≤ 10000) :
    ElP K (tLc (iTup K tl) (gName j) tYes (tTup (tCons ta (tCons tb tNil))) vs) σ H (ns.map g) := fun H0 e Q q => h H0 e _ fun v H2 e2 k => by
  cases k with
  | @tup a ws _ hs hA =>
    have ew := hA.ints
    subst ew
    refine ⟨a, rfl, ⟨_, hs⟩, fun D hD => ?_⟩
    have eT : Tx H H2 := e.trans (.of e2)
    refine lc_it ((walk_tup (K := K) (a := a) (xs := ns.map V.int)).mono (G' := fun H' => Ex H2 H') (Y' := fun i H x H' => H' = H ∧ (ns.map V.int)[i]? = some x) (fun H' h => ex_t h hs) (fun _ _ _ _ _ _ y => y)) (fun i H' => AccP K H2 D ((ns.map g).take i) H') ⟨hD, Ex.new hD, Nat.zero_le _, [], upd_same, .nil⟩ (fun i H' _ p => p.2.1) (fun i v Ha Hb hi' pa y => ?_) fun H' pa => ?_
    · obtain ⟨rfl, yv⟩ := y
      refine ⟨hw _, ?_⟩
      rw [List.length_map] at hi'
      have ei : ns[i]? = some ns[i] := List.getElem?_eq_getElem hi'
      rw [List.getElem?_map, ei] at yv
      cases yv
      have hm : ns[i] ∈ ns := List.getElem_mem hi'
      obtain ⟨p1, p2, p3, acc, p4, p5⟩ := pa
      refine yes_if ?_
      refine ha _ hm _ (eT.trans (.of p2)) _ (Tx.refl _) _ fun x1 H3 e3 k1 => hb _ hm H3 (eT.trans (.of (p2.trans e3))) _ (Tx.refl _) _ fun x2 H4 e4 k2 => ?_
      cases k1; cases k2
      refine ⟨sz_of (Nat.le_of_ble_eq_true rfl), fun T hT => ?_⟩
      have e5 : Ex H4 (upd H4 T (.tup [.int (g ns[i]).1, .int (g ns[i]).2])) := Ex.new hT
      have e6 := (e3.trans e4).trans e5
      have nD : D ≠ T := fun z => by
        subst z
        have := (e3.trans e4) _ _ p4
        rw [hT] at this
        cases this
      have pl := paired_len p5
      rw [List.length_take, List.length_map] at pl
      refine ⟨acc, e6 _ _ p4, sz_lt (by omega), p1, Ex.mut (p2.trans e6) p1, ?_, acc ++ [.ref T], upd_same, ?_⟩
      · rw [List.length_take, List.length_map]; omega
      · rw [List.take_succ_eq_append_getElem (by rw [List.length_map]; exact hi')]
        rw [List.getElem_map]
        refine paired_snoc ⟨T, rfl, ?a⟩ (paired_mono (fun x q => ?b) p5)
        case a => rw [upd_ne nD.symm, upd_same]
        case b =>
          rintro ⟨t, rfl, ht⟩
          have n2 : t ≠ D := fun z => by
            subst z
            rw [p4] at ht
            cases ht
          exact ⟨t, rfl, by rw [upd_ne n2]; exact e6 _ _ ht⟩
    · obtain ⟨p1, p2, _, acc, p4, p5⟩ := pa
      have e0 : (ns.map g).take (ns.map V.int).length = ns.map g := by rw [List.length_map, ← List.length_map (f := g), List.take_length]
      rw [e0] at p5
      exact q D acc H' (fresh_back e2 p1) (e2.trans p2) p4 p5

/-! ### a call that gives a new list -/
def spL (K : PySem.W.Frag) (R : List PyData → List PyData → Prop) : Sp := fun vs H Q _ => ∃ ds es, DtA K H vs ds ∧ R ds es ∧ ∀ p xs H', H p = none → Ex H H' → H' p = some (.lst xs) → DtA K H' xs es → Q (.ref p) H'
theorem spL_len {R : List PyData → List PyData → Prop} {n : Nat} (h : ∀ ds d, R ds d → ds.length = n) (vs : List V) (H : Hp) (Q : VK) (E : XK) (q : spL K R vs H Q E) : vs.length = n := by
  obtain ⟨ds, d, ha, hR, _⟩ := q
  rw [ha.len]
  exact h ds d hR
theorem el_call {R : List PyData → List PyData → Prop} {E : XK} {ta : TA} (h : Ea K ta σ H ds) (hR : R ds es) : El K (tCall (spL K R) [] E ta) σ H es := fun H1 e Q q =>
  h H1 e _ fun vs H2 e2 ks => ⟨ds, es, by rw [List.append_nil]; exact ks, hR, fun p xs H3 hp e3 hx kx => q p xs H3 (fresh_back e2 hp) (e2.trans e3) hx kx⟩
theorem sd_retL (h : El K te σ H ds) (k : ∀ p xs H1, H p = none → Ex H H1 → H1 p = some (.lst xs) → DtA K H1 xs ds → D.rt (.ref p) H1) : tRet te D σ H := h H (Tx.refl H) _ fun p xs H1 hp e hx kx => k p xs H1 hp e hx kx
/-! ### [.. for x in range(n) for y in range(m)] -/
theorem el_lc2R {ta1 ta2 : TA} {j k : Nat} {vs vs1 : List Nat} {n m : Nat} (g : Nat → Nat → PyData) (h : Ea K ta1 σ H [.int (n : Int)]) (hn : n ≤ 100) (hm : m ≤ 100)
    (hw : ∀ x, wipe ((wipe σ vs).set j (some x)) vs = wipe σ vs) (hw1 : ∀ x y, wipe ((wipe ((wipe σ vs).set j (some x)) vs1).set k (some y)) vs1 = wipe ((wipe σ vs).set j (some x)) vs1)
    (h2 : ∀ i, i < n → ∀ H1, Tx H H1 → Ea K ta2 ((wipe σ vs).set j (some (.int (i : Int)))) H1 [.int (m : Int)])
    (he : ∀ i l, i < n → l < m → ∀ H1, Tx H H1 → Ed K te ((wipe ((wipe σ vs).set j (some (.int (i : Int)))) vs1).set k (some (.int (l : Int)))) H1 (g i l)) :
    El K (tLc2 (iRng1 ta1) (gName j) tYes (iRng1 ta2) (gName k) tYes te vs vs1) σ H ((List.range n).flatMap fun i => (List.range m).map fun l => g i l) := fun H0 e Q q =>
  h H0 e _ fun ws H2 e2 ks => by
    cases ks with
    | cons k1 ks =>
      cases k1; cases ks
      have eT : Tx H H2 := e.trans (.of e2)
      refine ⟨(n : Int), rfl, by omega, by omega, fun D hD => ?_⟩
      rw [Int.toNat_natCast]
      have lenF : ∀ i, ((List.range i).flatMap fun i => (List.range m).map fun l => g i l).length = i * m := by
        intro i
        induction i with
        | zero => simp
        | succ i ih => rw [List.range_succ, List.flatMap_append, List.length_append, ih, List.flatMap_singleton, List.length_map, List.length_range, Nat.succ_mul]
      have bnd : ∀ i, i ≤ n → i * m ≤ 10000 := fun i hi => by
        have := Nat.mul_le_mul (Nat.le_trans hi hn) hm
        omega
      refine ⟨fun i q H' => q = n - i ∧ i ≤ n ∧ Acc K H2 D ((List.range i).flatMap fun i => (List.range m).map fun l => g i l) H', ⟨n, by simp, Nat.zero_le _, Acc.start hD⟩, ?_⟩
      rintro i q' H3 ⟨rfl, hi, pa⟩
      by_cases hlt : i < n
      · refine .inr ⟨hlt, fun H' => Acc K H2 D ((List.range (i + 1)).flatMap fun i => (List.range m).map fun l => g i l) H', fun H' p' => ⟨n - (i + 1), by omega, rfl, hlt, p'⟩, fun x H' y => ?_⟩
        obtain ⟨rfl, rfl⟩ := y
        rw [Int.zero_add]
        refine ⟨hw _, ?_⟩
        refine yes_if ?_
        refine h2 i hlt H' (eT.trans (.of pa.2.1)) _ (Tx.refl _) _ fun ws2 H4 e4 ks4 => ?_
        cases ks4 with
        | cons k1 ks4 =>
          cases k1; cases ks4
          refine ⟨(m : Int), rfl, by omega, by omega, ?_⟩
          rw [Int.toNat_natCast]
          have pa4 : Acc K H2 D ((List.range i).flatMap fun i => (List.range m).map fun l => g i l) H4 := by
            obtain ⟨p1, p2, p3, acc, p4, p5⟩ := pa
            exact ⟨p1, p2.trans e4, p3, acc, e4 _ _ p4, p5.ex e4⟩
          refine ⟨fun l q H' => q = m - l ∧ l ≤ m ∧ Acc K H2 D (((List.range i).flatMap fun i => (List.range m).map fun l => g i l) ++ (List.range l).map fun l => g i l) H', ⟨m, by simp, Nat.zero_le _, by simpa using pa4⟩, ?_⟩
          rintro l q'' H5 ⟨rfl, hl, pb⟩
          by_cases hlm : l < m
          · refine .inr ⟨hlm, fun H' => Acc K H2 D (((List.range i).flatMap fun i => (List.range m).map fun l => g i l) ++ (List.range (l + 1)).map fun l => g i l) H', fun H' p' => ⟨m - (l + 1), by omega, rfl, hlm, p'⟩, fun x H' y => ?_⟩
            obtain ⟨rfl, rfl⟩ := y
            rw [Int.zero_add]
            refine ⟨hw1 _ _, ?_⟩
            refine acc_turn pb ?_ eb_yes (fun _ => he i l hlt hlm H' (eT.trans (.of pb.2.1))) fun H' a => ?_
            · rw [List.length_append, lenF, List.length_map, List.length_range]
              have := bnd i hi
              omega
            · rw [List.append_assoc, if_pos rfl] at a
              rw [List.range_succ, List.map_append]
              exact a
          · have el : l = m := by omega
            subst el
            refine .inl ⟨Nat.le_refl _, ?_⟩
            rw [List.range_succ, List.flatMap_append, List.flatMap_singleton]
            exact pb
      · have ei : i = n := by omega
        subst ei
        obtain ⟨p1, p2, _, acc, p4, p5⟩ := pa
        exact .inl ⟨Nat.le_refl _, q D acc H3 (fresh_back e2 p1) (e2.trans p2) p4 p5⟩
end
end Dome
/-! Readings of expressions that draw from a pen (a list of three ints, changed in place). -/
namespace Dome
open PySem L2 Evl
abbrev LIM : Nat := 1099511627776
/-- a pen: its third number is at most n -/
def Pen (H : Hp) (p : Addr) (n : Nat) : Prop := ∃ a b c : Int, H p = some (.lst [.int a, .int b, .int c]) ∧ 0 ≤ a ∧ 0 ≤ b ∧ b < 1000000007 ∧ 0 ≤ c ∧ c ≤ (n : Int)
theorem Pen.mono {H : Hp} {p : Addr} {n m : Nat} (h : Pen H p n) (l : n ≤ m) : Pen H p m := by
  obtain ⟨a, b, c, h1, h2, h3, h4, h5, h6⟩ := h
  exact ⟨a, b, c, h1, h2, h3, h4, h5, by omega⟩
theorem Pen.ex {H H' : Hp} {p : Addr} {n : Nat} (h : Pen H p n) (e : Ex H H') : Pen H' p n := by
  obtain ⟨a, b, c, h1, h2⟩ := h
  exact ⟨a, b, c, e _ _ h1, h2⟩
theorem Pen.ne {H : Hp} {p q : Addr} {n : Nat} (h : Pen H p n) (hq : H q = none) : q ≠ p := fun z => by
  subst z
  obtain ⟨a, b, c, h1, _⟩ := h
  rw [hq] at h1
  cases h1
theorem ExB.of {a : Addr} {H H' : Hp} (e : Ex H H') : ExB a H H' := fun b o _ h => e b o h
theorem ExB.trans {a : Addr} {H H1 H2 : Hp} (x : ExB a H H1) (y : ExB a H1 H2) : ExB a H H2 := fun b o n h => y b o n (x b o n h)
/-- what a drawing step leaves -/
structure Go (p : Addr) (H H' : Hp) (m : Nat) : Prop where
  xB : ExB p H H'
  xT : Tx H H'
  pn : Pen H' p m
theorem Go.trans {p : Addr} {H H1 H2 : Hp} {a b : Nat} (x : Go p H H1 a) (y : Go p H1 H2 b) : Go p H H2 b := ⟨x.xB.trans y.xB, x.xT.trans y.xT, y.pn⟩
theorem Go.of {p : Addr} {H H' : Hp} {n : Nat} (e : Ex H H') (h : Pen H p n) : Go p H H' n := ⟨.of e, .of e, h.ex e⟩
theorem Go.ex {p : Addr} {H H1 H2 : Hp} {n : Nat} (x : Go p H H1 n) (e : Ex H1 H2) : Go p H H2 n := x.trans (.of e x.pn)
theorem Go.mono {p : Addr} {H H' : Hp} {n m : Nat} (x : Go p H H' n) (l : n ≤ m) : Go p H H' m := ⟨x.xB, x.xT, x.pn.mono l⟩
def Em (K : PySem.W.Frag) (p : Addr) (te : TE) (σ : L2.St) (H : Hp) (k : Nat) (R : PyData → Prop) : Prop :=
  ∀ H1, Tx H H1 → ∀ n, Pen H1 p n → n + k ≤ LIM → ∀ Q : VK, (∀ v H2 d, Go p H1 H2 (n + k) → Dt K H2 v d → R d → Q v H2) → te σ H1 Q
def Ema (K : PySem.W.Frag) (p : Addr) (ta : TA) (σ : L2.St) (H : Hp) (k : Nat) (R : List PyData → Prop) : Prop :=
  ∀ H1, Tx H H1 → ∀ n, Pen H1 p n → n + k ≤ LIM → ∀ Q : List V → Hp → Prop, (∀ vs H2 ds, Go p H1 H2 (n + k) → DtA K H2 vs ds → R ds → Q vs H2) → ta σ H1 Q
/-- a test, its answer unknown -/
def Emt (p : Addr) (tt : TT) (σ : L2.St) (H : Hp) (k : Nat) (B : Bool → Prop) : Prop :=
  ∀ H1, Tx H H1 → ∀ n, Pen H1 p n → n + k ≤ LIM → ∀ Q : Bool → Hp → Prop, (∀ b H2, Go p H1 H2 (n + k) → B b → Q b H2) → tt σ H1 Q
/-- a new list -/
def Elm (K : PySem.W.Frag) (p : Addr) (te : TE) (σ : L2.St) (H : Hp) (k : Nat) (R : List PyData → Prop) : Prop :=
  ∀ H1, Tx H H1 → ∀ n, Pen H1 p n → n + k ≤ LIM → ∀ Q : VK, (∀ q xs H2 ds, H1 q = none → Go p H1 H2 (n + k) → H2 q = some (.lst xs) → DtA K H2 xs ds → R ds → Q (.ref q) H2) → te σ H1 Q
def IntIn (a b : Int) (d : PyData) : Prop := ∃ i : Int, d = .int i ∧ a ≤ i ∧ i ≤ b
section
variable {K : PySem.W.Frag} {p : Addr} {σ : L2.St} {H H' : Hp} {ta tb te tx tl : TE} {tt : TT} {d : PyData} {ds : List PyData} {k k1 k2 : Nat} {R R1 R2 : PyData → Prop} {S S1 S2 : List PyData → Prop} {aa : TA} {D : Ends} {u tu tw : TS} {n : Nat}
theorem Em.at (h : Em K p te σ H k R) (t : Tx H H') : Em K p te σ H' k R := fun H1 a n pn hn Q q => h H1 (t.trans a) n pn hn Q q
theorem Em.imp (h : Em K p te σ H k R) (l : k ≤ k1) (r : ∀ d, R d → R1 d) : Em K p te σ H k1 R1 := fun H1 a n pn hn Q q => h H1 a n pn (by omega) Q fun v H2 d g kd rd => q v H2 d (g.mono (by omega)) kd (r d rd)
theorem Elm.imp (h : Elm K p te σ H k S) (l : k ≤ k1) (r : ∀ d, S d → S1 d) : Elm K p te σ H k1 S1 := fun H1 a n pn hn Q q => h H1 a n pn (by omega) Q fun v xs H2 ds h0 g hx kx rd => q v xs H2 ds h0 (g.mono (by omega)) hx kx (r _ rd)
theorem em_of (h : Ed K te σ H d) : Em K p te σ H 0 (fun x => x = d) := fun H1 a n pn hn Q q => h H1 a Q fun v H2 e kd => q v H2 d (.of e pn) kd rfl
theorem em_int {i : Int} (h : Ed K te σ H (.int i)) : Em K p te σ H 0 (IntIn i i) := (em_of h).imp (Nat.le_refl _) fun d e => ⟨i, e, Int.le_refl _, Int.le_refl _⟩
theorem ema_nil : Ema K p tNil σ H 0 (fun ds => ds = []) := fun H1 a n pn hn Q q => q [] H1 [] (.of (Ex.refl _) pn) .nil rfl
theorem ema_cons (h : Em K p te σ H k1 R) (hr : Ema K p aa σ H k2 S) : Ema K p (tCons te aa) σ H (k1 + k2) (fun ds => ∃ d r, ds = d :: r ∧ R d ∧ S r) := fun H1 a n pn hn Q q =>
  h H1 a n pn (by omega) _ fun v H2 d g kd rd => hr H2 (a.trans g.xT) (n + k1) g.pn (by omega) _ fun vs H3 ds g2 ks sd => q _ H3 (d :: ds) ((g.trans g2).mono (by omega)) (.cons (kd.at g2.xT) ks) ⟨d, ds, rfl, rd, sd⟩
theorem em_tup (h : Ema K p aa σ H k S) (hl : ∀ ds, S ds → ds.length ≤ 1000) : Em K p (tTup aa) σ H k (fun d => ∃ ds, d = .tuple ds ∧ S ds) := fun H1 a n pn hn Q q =>
  h H1 a n pn hn _ fun vs H2 ds g ks sd => ⟨sz_of (by rw [ks.len]; have := hl ds sd; omega), fun t ht => q _ _ _ (g.ex (Ex.new ht)) (.tup (st_of upd_same) (ks.ex (Ex.new ht))) ⟨ds, rfl, sd⟩⟩
theorem em_cadd {c a b : Int} (h1 : Ed K ta σ H (.int c)) (h2 : Em K p tb σ H k (IntIn a b)) : Em K p (tOp rPlus ta tb) σ H k (IntIn (c + a) (c + b)) := fun H1 t n pn hn Q q =>
  h1 H1 t _ fun v H2 e kv => h2 H2 (t.trans (.of e)) n (pn.ex e) hn _ fun w H3 d g kd rd => by
    obtain ⟨i, rfl, i1, i2⟩ := rd
    cases kv; cases kd
    exact ⟨c, i, rfl, rfl, q _ H3 (.int (c + i)) ((Go.of e pn).trans g) (.int _) ⟨_, rfl, by omega, by omega⟩⟩
theorem em_subc {c a b : Int} (h1 : Em K p ta σ H k (IntIn a b)) (h2 : Ed K tb σ H (.int c)) : Em K p (tOp rMinus ta tb) σ H k (IntIn (a - c) (b - c)) := fun H1 t n pn hn Q q =>
  h1 H1 t n pn hn _ fun v H2 d g kd rd => h2 H2 (t.trans g.xT) _ fun w H3 e kw => by
    obtain ⟨i, rfl, i1, i2⟩ := rd
    cases kd; cases kw
    exact ⟨i, c, rfl, rfl, q _ H3 (.int (i - c)) (g.ex e) (.int _) ⟨_, rfl, by omega, by omega⟩⟩
/-- [..][i] -/
theorem em_ixL {m : Nat} (h1 : Ema K p aa σ H k1 S) (h2 : Em K p tb σ H k2 (IntIn 0 ((m : Int) - 1))) (hl : ∀ ds, S ds → ds.length = m) (hm : m ≤ 1000) : Em K p (tOp (rIxL K) (tLst aa) tb) σ H (k1 + k2) (fun d => ∃ ds, S ds ∧ d ∈ ds) := fun H1 t n pn hn Q q =>
  h1 H1 t n pn (by omega) _ fun vs H2 ds g ks sd => ⟨sz_of (by rw [ks.len, hl ds sd]; omega), fun l hl' => by
    have en : Ex H2 (upd H2 l (.lst vs)) := Ex.new hl'
    have nl := g.pn.ne hl'
    refine h2 _ ((t.trans g.xT).trans (.of en)) (n + k1) (g.pn.ex en) (by omega) _ fun w H3 d g2 kd rd => ?_
    obtain ⟨i, rfl, i1, i2⟩ := rd
    cases kd
    have el := hl ds sd
    have hi : i.toNat < ds.length := by omega
    obtain ⟨v, hv, kv⟩ := ((ks.ex en).at g2.xT).get (List.getElem?_eq_getElem hi)
    have hl3 : H3 l = some (.lst vs) := g2.xB l _ nl upd_same
    exact ⟨l, vs, i, v, rfl, rfl, sq_of hl3, at_nat hv (by omega), q v H3 _ (((g.ex en).trans g2).mono (by omega)) kv ⟨ds, sd, List.getElem_mem hi⟩⟩⟩
/-- the promise of a def that draws: x what is known of the arguments -/
def spG (K : PySem.W.Frag) (k : Nat) {α : Type} (A : α → List PyData → Prop) (R : α → PyData → Prop) : Sp := fun vs H Q _ => ∃ p ws ds n x, vs = .ref p :: ws ∧ DtA K H ws ds ∧ A x ds ∧ Pen H p n ∧ n + k ≤ LIM ∧ ∀ v H' d, Go p H H' (n + k) → Dt K H' v d → R x d → Q v H'
theorem spG_len {α : Type} {k m : Nat} {A : α → List PyData → Prop} {R : α → PyData → Prop} (h : ∀ x ds, A x ds → ds.length = m) (vs : List V) (H : Hp) (Q : VK) (E : XK) (q : spG K k A R vs H Q E) : vs.length = m + 1 := by
  obtain ⟨p, ws, ds, n, x, rfl, ha, hp, _⟩ := q
  rw [List.length_cons, ha.len, h x ds hp]
theorem em_call {α : Type} {i : Nat} {E : XK} {A : α → List PyData → Prop} {R : α → PyData → Prop} (hv : σ[i]? = some (some (.ref p))) (h : Ema K p aa σ H k1 S) (hp : ∀ ds, S ds → ∃ x, A x ds ∧ ∀ d, R x d → R1 d) : Em K p (tCall (spG K k A R) [] E (tCons (tVar i) aa)) σ H (k1 + k) R1 := fun H1 t n pn hn Q q =>
  ⟨_, hv, h H1 t n pn (by omega) _ fun vs H2 ds g ks sd => by
    obtain ⟨x, hx1, hx2⟩ := hp ds sd
    exact ⟨p, vs, ds, n + k1, x, by rw [List.append_nil], ks, hx1, g.pn, by omega, fun v H3 d g2 kd rd => q v H3 d ((g.trans g2).mono (by omega)) kd (hx2 d rd)⟩⟩
theorem emt_eq0 {te2 : TE} {j a b : Int} (h : Em K p te σ H k (IntIn a b)) (h2 : Ed K te2 σ H (.int j)) : Emt p (tTest (tOp rEq te te2)) σ H k (fun _ => True) := fun H1 t n pn hn Q q =>
  h H1 t n pn hn _ fun v H2 d g kd rd => h2 H2 (t.trans g.xT) _ fun w H3 e kw => by
    obtain ⟨i, rfl, _⟩ := rd
    cases kd; cases kw
    refine ⟨rfl, _, rfl, q _ H3 (g.ex e) trivial⟩
theorem emt_yes : Emt p tYes σ H 0 (fun b => b = true) := fun H1 t n pn hn Q q => q true H1 (.of (Ex.refl _) pn) rfl
/-- a comprehension: Inv by the turn -/
theorem elm_lcN {j : Nat} {vs : List Nat} {wi : TI} {lo hi : Nat} {B : Bool → Prop} (R : Nat → PyData → Prop) (Inv : Nat → List PyData → Prop) (i0 : Inv 0 []) (iNo : ∀ i ds, B false → Inv i ds → Inv (i + 1) ds) (src : Nat → V → Hp → Prop) (iYes : ∀ i ds v H1 d, Inv i ds → src i v H1 → R i d → Inv (i + 1) (ds ++ [d]))
    (hi' : ∀ H1, Tx H H1 → ∀ n, Pen H1 p n → n + k ≤ LIM → ∀ RR : It → Hp → Prop, (∀ (J : It) (G : Hp → Prop) (cnt : Nat) H2, Go p H1 H2 (n + k) → lo ≤ cnt → cnt ≤ hi → Walk J cnt G (fun i H x H' => H' = H ∧ src i x H') → (∀ Hb, ExB p H2 Hb → Tx H2 Hb → G Hb) → RR J H2) → wi σ H1 RR)
    (hhi : hi ≤ 10000) (hw : ∀ x, wipe ((wipe σ vs).set j (some x)) vs = wipe σ vs)
    (ht : ∀ i, i < hi → ∀ v H1, Tx H H1 → src i v H1 → Emt p tt ((wipe σ vs).set j (some v)) H1 k1 B) (he : ∀ i, i < hi → ∀ v H1 H2, Tx H H1 → src i v H1 → Tx H1 H2 → Em K p te ((wipe σ vs).set j (some v)) H2 k2 (R i)) :
    Elm K p (tLc wi (gName j) tt te vs) σ H (k + hi * (k1 + k2)) (fun ds => ∃ cnt, lo ≤ cnt ∧ cnt ≤ hi ∧ Inv cnt ds ∧ ds.length ≤ cnt) := fun H0 e n pn hn Q q => by
  refine hi' H0 e n pn (by omega) _ fun J G cnt H2 g2 c1 c2 W gx D hD => ?_
  have nD := g2.pn.ne hD
  have eN : Ex H2 (upd H2 D (.lst [])) := Ex.new hD
  have bud : ∀ i, i < hi → i * (k1 + k2) + (k1 + k2) ≤ hi * (k1 + k2) := fun i h => by
    have := Nat.mul_le_mul_right (k1 + k2) (show i + 1 ≤ hi from h)
    rw [Nat.succ_mul] at this
    exact this
  refine lc_it (W.mono (G' := fun H' => ExB p H2 H' ∧ Tx H2 H') (Y' := fun i H x H' => H' = H ∧ src i x H') (fun H' h => gx H' h.1 h.2) (fun _ _ _ _ _ _ y => y)) (fun i H' => Go p H2 H' (n + k + i * (k1 + k2)) ∧ ∃ acc ds, H' D = some (.lst acc) ∧ DtA K H' acc ds ∧ Inv i ds ∧ ds.length ≤ i) ⟨(Go.of eN g2.pn).mono (by omega), [], [], upd_same, .nil, i0, Nat.le_refl _⟩ (fun i H' _ p => ⟨p.1.xB, p.1.xT⟩) (fun i v Ha Hb hi' pa y => ?_) fun H' pa => ?_
  · obtain ⟨rfl, yv⟩ := y
    refine ⟨hw _, ?_⟩
    obtain ⟨ga, acc, ds, p4, p5, p6, p7⟩ := pa
    have hlt : i < hi := by omega
    have b0 := bud i hlt
    have tb : Tx H Hb := (e.trans g2.xT).trans ga.xT
    refine ht i hlt v Hb tb yv Hb (Tx.refl _) _ ga.pn (by omega) _ fun b H3 g3 hB => ?_
    have e1 : (i + 1) * (k1 + k2) = i * (k1 + k2) + (k1 + k2) := Nat.succ_mul _ _
    have p43 := g3.xB D _ nD p4
    cases b with
    | true =>
      show te _ H3 _
      refine he i hlt v Hb H3 tb yv g3.xT H3 (Tx.refl _) _ g3.pn (by omega) _ fun y H4 d g4 kd rd => ?_
      have p44 := g4.xB D _ nD p43
      have al : acc.length ≤ i := by rw [p5.len]; exact p7
      have tD := Tx.lst (o := .lst (acc ++ [y])) p44
      have g5 := (ga.trans g3).trans g4
      refine ⟨acc, p44, sz_lt (by omega), ⟨fun b o hb h => ?_, g5.xT.trans tD, ?_⟩, acc ++ [y], ds ++ [d], upd_same, ((p5.at (g3.xT.trans g4.xT)).at tD).append (.cons (kd.at tD) .nil), iYes i ds v Hb d p6 yv rd, ?_⟩
      · have nb : b ≠ D := fun z => by
          subst z
          rw [hD] at h
          cases h
        rw [upd_ne nb]
        exact g5.xB b o hb h
      · obtain ⟨a, b, c, h1, h2⟩ := g5.pn.mono (show _ ≤ n + k + (i + 1) * (k1 + k2) by omega)
        exact ⟨a, b, c, by rw [upd_ne nD.symm]; exact h1, h2⟩
      · rw [List.length_append, List.length_singleton]; omega
    | false =>
      show (_ ∧ _)
      exact ⟨(ga.trans g3).mono (by omega), acc, ds, p43, p5.at g3.xT, iNo i ds hB p6, by omega⟩
  · obtain ⟨ga, acc, ds, p4, p5, p6, p7⟩ := pa
    have hD0 : H0 D = none := by
      cases h0 : H0 D with
      | none => rfl
      | some o =>
        have := g2.xB D o nD h0
        rw [hD] at this
        cases this
    have b1 := Nat.mul_le_mul_right (k1 + k2) c2
    exact q D acc H' ds hD0 ((g2.trans ga).mono (by omega)) p4 p5 ⟨cnt, c1, c2, p6, p7⟩
/-- over range(n), n drawn -/
theorem elm_lcR {j : Nat} {vs : List Nat} {lo hi : Nat} {B : Bool → Prop} (R : Nat → PyData → Prop) (Inv : Nat → List PyData → Prop) (i0 : Inv 0 []) (iNo : ∀ i ds, B false → Inv i ds → Inv (i + 1) ds) (iYes : ∀ i ds d, Inv i ds → R i d → Inv (i + 1) (ds ++ [d]))
    (h : Em K p ta σ H k (IntIn (lo : Int) (hi : Int))) (hhi : hi ≤ 10000) (hw : ∀ x, wipe ((wipe σ vs).set j (some x)) vs = wipe σ vs)
    (ht : ∀ i, i < hi → ∀ H1, Tx H H1 → Emt p tt ((wipe σ vs).set j (some (.int (i : Int)))) H1 k1 B) (he : ∀ i, i < hi → ∀ H1, Tx H H1 → Em K p te ((wipe σ vs).set j (some (.int (i : Int)))) H1 k2 (R i)) :
    Elm K p (tLc (iRng1 (tCons ta tNil)) (gName j) tt te vs) σ H (k + hi * (k1 + k2)) (fun ds => ∃ cnt, lo ≤ cnt ∧ cnt ≤ hi ∧ Inv cnt ds ∧ ds.length ≤ cnt) := by
  refine elm_lcN (lo := lo) R Inv i0 iNo (fun i v _ => v = .int (i : Int)) (fun i ds v H1 d h _ r => iYes i ds d h r) (fun H1 t n pn hn RR rr => h H1 t n pn hn _ fun v H2 d g kd rd => ?_) hhi hw (fun i hi v H1 t e => by subst e; exact ht i hi H1 t) (fun i hi v H1 H2 t e t2 => by subst e; exact he i hi H2 (t.trans t2))
  obtain ⟨c, rfl, c1, c2⟩ := rd
  cases kd
  refine ⟨c, rfl, by omega, by omega, rr (Itr 0 c.toNat) (fun _ => True) c.toNat H2 g (by omega) (by omega) (walk_range.mono (fun _ h => h) fun i H x H' _ _ y => ⟨y.1, y.2.trans (congrArg V.int (Int.zero_add _))⟩) fun _ _ _ => trivial⟩
/-- over a tuple -/
theorem elm_lcT {j : Nat} {vs : List Nat} (R : Nat → PyData → Prop) (Inv : Nat → List PyData → Prop) (i0 : Inv 0 []) (iYes : ∀ i ds d, Inv i ds → R i d → Inv (i + 1) (ds ++ [d]))
    (h : Ed K tl σ H (.tuple ds)) (hhi : ds.length ≤ 10000) (hw : ∀ x, wipe ((wipe σ vs).set j (some x)) vs = wipe σ vs) (he : ∀ i, i < ds.length → ∀ v H1, Tx H H1 → Em K p te ((wipe σ vs).set j (some v)) H1 k2 (R i)) :
    Elm K p (tLc (iTup K tl) (gName j) tYes te vs) σ H (0 + ds.length * (0 + k2)) (fun es => ∃ cnt, ds.length ≤ cnt ∧ cnt ≤ ds.length ∧ Inv cnt es ∧ es.length ≤ cnt) := by
  refine elm_lcN (lo := ds.length) R Inv i0 (fun _ _ h => nomatch h) (fun i v _ => True) (fun i ds v H1 d h _ r => iYes i ds d h r) (fun H1 t n pn hn RR rr => h H1 t _ fun v H2 e k => ?_) hhi hw (fun i hi v H1 t e => emt_yes) (fun i hi v H1 H2 t e t2 => he i hi v H2 (t.trans t2))
  cases k with
  | @tup a xs _ ha hA =>
    refine ⟨a, rfl, ⟨xs, ha⟩, rr (Itt K a) (fun H => SqT K H a xs) ds.length H2 (.of e pn) (Nat.le_refl _) (Nat.le_refl _) ?_ fun Hb _ t => t.sq ha⟩
    rw [← hA.len]
    exact walk_tup.mono (fun _ h => h) fun i H x H' _ _ y => ⟨y.1, trivial⟩
theorem em_tuple (h : Elm K p te σ H k S) : Em K p (tCB (rTupQ K) (tCons te tNil)) σ H k (fun d => ∃ ds, d = .tuple ds ∧ S ds) := fun H1 t n pn hn Q q =>
  h H1 t n pn hn _ fun l xs H2 ds h0 g hx kx sd => ⟨l, xs, rfl, .inl ⟨sq_of hx, fun r hr => q _ _ _ (g.ex (Ex.new hr)) (.tup (st_of upd_same) (kx.ex (Ex.new hr))) ⟨ds, rfl, sd⟩⟩⟩
/-! ### statements -/
theorem sq_asgM {i : Nat} (h : Em K p te σ H k R) (pn : Pen H p n) (hn : n + k ≤ LIM) (c : ∀ v H1 d, Go p H H1 (n + k) → Dt K H1 v d → R d → u D (σ.set i (some v)) H1) : tSeq (tAsg te (gName i)) u D σ H := h H (Tx.refl _) n pn hn _ fun v H1 d g kd rd => c v H1 d g kd rd
theorem sq_asgLM {i : Nat} (h : Elm K p te σ H k S) (pn : Pen H p n) (hn : n + k ≤ LIM) (c : ∀ q xs H1 ds, H q = none → Go p H H1 (n + k) → H1 q = some (.lst xs) → DtA K H1 xs ds → S ds → u D (σ.set i (some (.ref q))) H1) : tSeq (tAsg te (gName i)) u D σ H := h H (Tx.refl _) n pn hn _ fun q xs H1 ds h0 g hx kx sd => c q xs H1 ds h0 g hx kx sd
theorem sd_retM' (h : Em K p te σ H k R) (pn : Pen H p n) (hn : n + k ≤ LIM) (c : ∀ v H1 d, Go p H H1 (n + k) → Dt K H1 v d → R d → D.rt v H1) : tRet te D σ H := h H (Tx.refl _) n pn hn _ fun v H1 d g kd rd => c v H1 d g kd rd
/-- a, b = e -/
theorem sq_un2M {i j : Nat} {R : PyData → PyData → Prop} (h : Em K p te σ H k (fun d => ∃ d1 d2, d = .tuple [d1, d2] ∧ R d1 d2)) (pn : Pen H p n) (hn : n + k ≤ LIM) (c : ∀ v u' H1 d1 d2, Go p H H1 (n + k) → Dt K H1 v d1 → Dt K H1 u' d2 → R d1 d2 → u D ((σ.set i (some v)).set j (some u')) H1) : tSeq (tAsg te (gTup K 2 (gCons (gName i) (gCons (gName j) gNil)))) u D σ H :=
  h H (Tx.refl _) n pn hn _ fun v H1 d g kd rd => by
    obtain ⟨d1, d2, rfl, r⟩ := rd
    cases kd with
    | @tup a xs _ ha hA =>
      cases hA with
      | cons k1 hA => cases hA with
        | cons k2 hA =>
          cases hA
          exact ⟨a, _, rfl, ha, rfl, _, _, rfl, _, _, rfl, rfl, c _ _ H1 d1 d2 g k1 k2 r⟩
theorem sq_parM {i j : Nat} (h1 : Em K p ta σ H k1 R1) (h2 : Em K p tb σ H k2 R2) (pn : Pen H p n) (hn : n + (k1 + k2) ≤ LIM) (c : ∀ v u' H1 d1 d2, Go p H H1 (n + (k1 + k2)) → Dt K H1 v d1 → Dt K H1 u' d2 → R1 d1 → R2 d2 → u D ((σ.set i (some v)).set j (some u')) H1) : tSeq (tPar i j (tCons ta (tCons tb tNil))) u D σ H :=
  h1 H (Tx.refl _) n pn (by omega) _ fun v H1 d1 g1 kd1 rd1 => h2 H1 g1.xT (n + k1) g1.pn (by omega) _ fun w H2 d2 g2 kd2 rd2 => ⟨v, w, rfl, c v w H2 d1 d2 ((g1.trans g2).mono (by omega)) (kd1.at g2.xT) kd2 rd1 rd2⟩
theorem sq_ifNM {B : Bool → Prop} (h : Emt p tt σ H k B) (pn : Pen H p n) (hn : n + k ≤ LIM) (c1 : ∀ H1, Go p H H1 (n + k) → tu { D with nx := u D } σ H1) (c2 : ∀ H1, Go p H H1 (n + k) → u D σ H1) : tSeq (tIfS tt tu tNext) u D σ H := h H (Tx.refl _) n pn hn _ fun b H1 g _ => by
  cases b with
  | true =>
    show tu _ σ H1
    exact c1 H1 g
  | false =>
    show u D σ H1
    exact c2 H1 g
theorem sq_forRM {j : Nat} {lo hi : Int} (h : Em K p te σ H k (IntIn lo hi)) (h0 : 0 ≤ lo) (h1 : hi ≤ 100000) (pn : Pen H p n) (hn : n + k ≤ LIM) (c : ∀ (cnt : Nat) H1, lo ≤ (cnt : Int) → (cnt : Int) ≤ hi → Go p H H1 (n + k) → ∃ Pv : Nat → L2.St → Hp → Prop, Pv 0 σ H1 ∧
    (∀ i σ' H', i < cnt → Pv i σ' H' → tu { D with nx := Pv (i + 1), ct := Pv (i + 1), bk := u D } (σ'.set j (some (.int (i : Int)))) H') ∧ ∀ σ' H', Pv cnt σ' H' → u D σ' H') : tSeq (tFor (iRng1 (tCons te tNil)) (gName j) tu) u D σ H :=
  h H (Tx.refl _) n pn hn _ fun v H1 d g kd rd => by
    obtain ⟨cn, rfl, c1, c2⟩ := rd
    cases kd
    have en : ((cn.toNat : Nat) : Int) = cn := by omega
    obtain ⟨Pv, p0, ps, pd⟩ := c cn.toNat H1 (by omega) (by omega) g
    refine ⟨cn, rfl, by omega, by omega, for_range (lo := 0) (n := cn.toNat) Pv p0 (fun i σ' H' hi p => ?_) pd⟩
    show tu _ (σ'.set j (some (.int (0 + (i : Int))))) H'
    rw [Int.zero_add]
    exact ps i σ' H' hi p
/-- xs.append(e), what e draws first -/
theorem sd_appM {i : Nat} {q : Addr} {xs : List V} (hv : σ[i]? = some (some (.ref q))) (hq : H q = some (.lst xs)) (nq : q ≠ p) (hl : xs.length ≤ 10000) (h : Em K p te σ H k R) (pn : Pen H p n) (hn : n + k ≤ LIM)
    (c : ∀ v H1 d, Go p H H1 (n + k) → Dt K H1 v d → R d → D.nx σ (upd H1 q (.lst (xs ++ [v])))) : tDrop (tBM K "list" rAppend (tVar i) (tCons te tNil)) D σ H :=
  ⟨_, hv, .inl ⟨rfl, xs, sq_of hq⟩, h H (Tx.refl _) n pn hn _ fun v H1 d g kd rd => ⟨q, xs, v, rfl, rfl, g.xB q _ nq hq, sz_lt (by omega), c v H1 d g kd rd⟩⟩
/-! ### at this heap -/
theorem xd_v {i : Nat} {v : V} (h : σ[i]? = some (some v)) (kd : Dt K H v d) : Xd K (tVar i) σ H d := fun Q q => ⟨v, h, q v H (Ex.refl H) kd⟩
theorem xd_int {i : Int} : Xd K (tC (.int i)) σ H (.int i) := fun Q q => q _ H (Ex.refl H) (.int i)
theorem xd_ixV {i j : Nat} {q : Addr} {xs : List V} {z : Int} (hv : σ[i]? = some (some (.ref q))) (hq : H q = some (.lst xs)) (hx : xs[j]? = some (.int z)) : Xd K (tOp (rIxL K) (tVar i) (tC (.int (j : Int)))) σ H (.int z) := fun Q qq =>
  ⟨_, hv, q, xs, j, _, rfl, rfl, sq_of hq, atI_nat hx, qq _ H (Ex.refl H) (.int z)⟩
theorem xd_I0 {g : Int → Int → V} {f : Int → Int → PyData} {i j : Int} (hg : ∀ H, Dt K H (g i j) (f i j)) (ha : Xd K ta σ H (.int i)) (hb : ∀ H1, Ex H H1 → Xd K tb σ H1 (.int j)) : Xd K (tOp (rI0 g) ta tb) σ H (f i j) := fun Q q => ha _ fun v H2 e2 kv => hb H2 e2 _ fun w H3 e3 kw => by
  cases kv; cases kw
  exact ⟨i, j, rfl, rfl, q _ H3 (e2.trans e3) (hg H3)⟩
theorem xd_I {C : Int → Int → Prop} {g : Int → Int → V} {f : Int → Int → PyData} {i j : Int} (hg : ∀ H, Dt K H (g i j) (f i j)) (ha : Xd K ta σ H (.int i)) (hb : ∀ H1, Ex H H1 → Xd K tb σ H1 (.int j)) (hc : C i j) : Xd K (tOp (rI C g) ta tb) σ H (f i j) := fun Q q => ha _ fun v H2 e2 kv => hb H2 e2 _ fun w H3 e3 kw => by
  cases kv; cases kw
  exact ⟨i, j, rfl, rfl, hc, q _ H3 (e2.trans e3) (hg H3)⟩
theorem xd_add {i j : Int} (ha : Xd K ta σ H (.int i)) (hb : ∀ H1, Ex H H1 → Xd K tb σ H1 (.int j)) : Xd K (tOp rPlus ta tb) σ H (.int (i + j)) := xd_I0 (f := fun i j => .int (i + j)) (fun _ => .int _) ha hb
theorem xd_mul {i j : Int} (ha : Xd K ta σ H (.int i)) (hb : ∀ H1, Ex H H1 → Xd K tb σ H1 (.int j)) (hc : CMul i j) : Xd K (tOp rTimes ta tb) σ H (.int (i * j)) := xd_I (f := fun i j => .int (i * j)) (fun _ => .int _) ha hb hc
theorem xd_mod {i j : Int} (ha : Xd K ta σ H (.int i)) (hb : ∀ H1, Ex H H1 → Xd K tb σ H1 (.int j)) (hc : 0 < j) : Xd K (tOp rMod ta tb) σ H (.int (i % j)) := xd_I (f := fun i j => .int (i % j)) (fun _ => .int _) ha hb hc
theorem xd_fdiv {i j : Int} (ha : Xd K ta σ H (.int i)) (hb : ∀ H1, Ex H H1 → Xd K tb σ H1 (.int j)) (hc : CDiv i j) : Xd K (tOp rFdiv ta tb) σ H (.int (i / j)) := xd_I (f := fun i j => .int (i / j)) (fun _ => .int _) ha hb hc
theorem sq_asgX {i : Nat} (h : Xd K te σ H d) (c : ∀ v H1, Ex H H1 → Dt K H1 v d → u D (σ.set i (some v)) H1) : tSeq (tAsg te (gName i)) u D σ H := h _ fun v H1 e kd => c v H1 e kd
theorem sq_ifNX {b : Bool} (h : Xb tt σ H b) (h1 : b = true → ∀ H1, Ex H H1 → tu { D with nx := u D } σ H1) (h2 : b = false → ∀ H1, Ex H H1 → u D σ H1) : tSeq (tIfS tt tu tNext) u D σ H := h _ fun H1 e => by
  cases b with
  | true =>
    show tu _ σ H1
    exact h1 rfl H1 e
  | false =>
    show u D σ H1
    exact h2 rfl H1 e
/-- xs[k] = e -/
theorem sq_setL {i j : Nat} {z : Int} {q : Addr} {xs : List V} (h : Xd K te σ H d) (hv : σ[i]? = some (some (.ref q))) (hq : H q = some (.lst xs)) (hj : ixN xs.length z = some j) (c : ∀ v H1, Ex H H1 → Dt K H1 v d → u D σ (upd H1 q (.lst (xs.set j v)))) : tSeq (tAsg te (gSub (tVar i) (tC (.int z)) rSetL)) u D σ H :=
  h _ fun v H1 e kd => ⟨_, hv, q, xs, z, j, rfl, rfl, e _ _ hq, hj, c v H1 e kd⟩
end
end Dome
/-! the text by names (printed by txt.py) -/
namespace Dome
open PySem PySem.Spec PyProof.Rows L2
abbrev top (i : Nat) : Stmt := DomeHead.top i
abbrev s_is_whole : Stmt := top 14
abbrev s_is_among : Stmt := top 15
abbrev s_is_row : Stmt := top 16
abbrev s_is_light_of : Stmt := top 17
abbrev s_is_sky : Stmt := top 18
abbrev s_need_sky : Stmt := top 19
abbrev s_stands_by : Stmt := top 20
abbrev s_is_back : Stmt := top 21
abbrev s_round_of : Stmt := top 22
abbrev s_half_of : Stmt := top 24
abbrev s_is_cell : Stmt := top 25
abbrev s_up_by : Stmt := top 26
abbrev s_is_lamp : Stmt := top 29
abbrev s_are_lamps : Stmt := top 30
abbrev s_cells_of : Stmt := top 31
abbrev s_covers : Stmt := top 32
abbrev s_covering_by : Stmt := top 33
abbrev s_is_item : Stmt := top 42
abbrev s_are_items : Stmt := top 43
abbrev s_size_of : Stmt := top 44
abbrev s_is_scene_by : Stmt := top 45
abbrev s_need_scene : Stmt := top 46
abbrev s_need_both : Stmt := top 47
abbrev s_beats_of : Stmt := top 48
abbrev s_is_state : Stmt := top 49
abbrev s_need_state : Stmt := top 50
abbrev s_unlike : Stmt := top 51
abbrev s_put_on : Stmt := top 52
abbrev s_often : Stmt := top 53
abbrev s_sums_in : Stmt := top 54
abbrev s_sums_of : Stmt := top 55
abbrev s_sums_to : Stmt := top 56
abbrev s_led_by : Stmt := top 57
abbrev s_need_led : Stmt := top 58
abbrev s_led : Stmt := top 59
abbrev s_reach : Stmt := top 60
abbrev s_common : Stmt := top 61
abbrev s_turns_of : Stmt := top 62
abbrev s_turns_near : Stmt := top 63
abbrev s_found_in : Stmt := top 64
abbrev s_found_again : Stmt := top 65
abbrev s_first_where : Stmt := top 66
abbrev s_is_show : Stmt := top 69
abbrev s_need_show : Stmt := top 70
abbrev s_word_of : Stmt := top 71
abbrev s_cell_of : Stmt := top 72
abbrev s_fault_by : Stmt := top 73
abbrev s_has_fault : Stmt := top 74
abbrev s_fault : Stmt := top 75
abbrev s_shown_at : Stmt := top 76
abbrev s_shown : Stmt := top 77
abbrev s_looked_through : Stmt := top 78
abbrev s_bad_cells : Stmt := top 79
abbrev s__law_cell : Stmt := top 81
abbrev s__law_pen : Stmt := top 82
abbrev s__law_draw : Stmt := top 83
abbrev s__law_sky : Stmt := top 84
abbrev s__law_lamp : Stmt := top 85
abbrev s__law_lamps : Stmt := top 86
abbrev s__law_state : Stmt := top 87
abbrev s__law_show : Stmt := top 88
abbrev s__law_item : Stmt := top 89
abbrev s__law_items : Stmt := top 90
abbrev s__law_steps : Stmt := top 91
abbrev s__law_plain : Stmt := top 92
abbrev s__law_beat : Stmt := top 93
abbrev s__law_more_right : Stmt := top 94
abbrev s__law_fewer_right : Stmt := top 95
abbrev s_law : Stmt := top 96
/-- a def of the text as the top leaves it -/
def Fn (K : PySem.W.Frag) (mg : Str → Option Value) (x : Str) (st : Stmt) : Prop := ∃ fd, FunD K x x (defArgs st) (defBody st) (defScope st) [] [] (He.ga K x) fd ∧ mg x = some (.ref (He.ga K x))
structure Txt (K : PySem.W.Frag) (mg : Str → Option Value) : Prop where
  f_is_whole : Fn K mg "is_whole" s_is_whole
  f_is_among : Fn K mg "is_among" s_is_among
  f_is_row : Fn K mg "is_row" s_is_row
  f_is_light_of : Fn K mg "is_light_of" s_is_light_of
  f_is_sky : Fn K mg "is_sky" s_is_sky
  f_need_sky : Fn K mg "need_sky" s_need_sky
  f_stands_by : Fn K mg "stands_by" s_stands_by
  f_is_back : Fn K mg "is_back" s_is_back
  f_round_of : Fn K mg "round_of" s_round_of
  f_half_of : Fn K mg "half_of" s_half_of
  f_is_cell : Fn K mg "is_cell" s_is_cell
  f_up_by : Fn K mg "up_by" s_up_by
  f_is_lamp : Fn K mg "is_lamp" s_is_lamp
  f_are_lamps : Fn K mg "are_lamps" s_are_lamps
  f_cells_of : Fn K mg "cells_of" s_cells_of
  f_covers : Fn K mg "covers" s_covers
  f_covering_by : Fn K mg "covering_by" s_covering_by
  f_is_item : Fn K mg "is_item" s_is_item
  f_are_items : Fn K mg "are_items" s_are_items
  f_size_of : Fn K mg "size_of" s_size_of
  f_is_scene_by : Fn K mg "is_scene_by" s_is_scene_by
  f_need_scene : Fn K mg "need_scene" s_need_scene
  f_need_both : Fn K mg "need_both" s_need_both
  f_beats_of : Fn K mg "beats_of" s_beats_of
  f_is_state : Fn K mg "is_state" s_is_state
  f_need_state : Fn K mg "need_state" s_need_state
  f_unlike : Fn K mg "unlike" s_unlike
  f_put_on : Fn K mg "put_on" s_put_on
  f_often : Fn K mg "often" s_often
  f_sums_in : Fn K mg "sums_in" s_sums_in
  f_sums_of : Fn K mg "sums_of" s_sums_of
  f_sums_to : Fn K mg "sums_to" s_sums_to
  f_led_by : Fn K mg "led_by" s_led_by
  f_need_led : Fn K mg "need_led" s_need_led
  f_led : Fn K mg "led" s_led
  f_reach : Fn K mg "reach" s_reach
  f_common : Fn K mg "common" s_common
  f_turns_of : Fn K mg "turns_of" s_turns_of
  f_turns_near : Fn K mg "turns_near" s_turns_near
  f_found_in : Fn K mg "found_in" s_found_in
  f_found_again : Fn K mg "found_again" s_found_again
  f_first_where : Fn K mg "first_where" s_first_where
  f_is_show : Fn K mg "is_show" s_is_show
  f_need_show : Fn K mg "need_show" s_need_show
  f_word_of : Fn K mg "word_of" s_word_of
  f_cell_of : Fn K mg "cell_of" s_cell_of
  f_fault_by : Fn K mg "fault_by" s_fault_by
  f_has_fault : Fn K mg "has_fault" s_has_fault
  f_fault : Fn K mg "fault" s_fault
  f_shown_at : Fn K mg "shown_at" s_shown_at
  f_shown : Fn K mg "shown" s_shown
  f_looked_through : Fn K mg "looked_through" s_looked_through
  f_bad_cells : Fn K mg "bad_cells" s_bad_cells
  f__law_cell : Fn K mg "_law_cell" s__law_cell
  f__law_pen : Fn K mg "_law_pen" s__law_pen
  f__law_draw : Fn K mg "_law_draw" s__law_draw
  f__law_sky : Fn K mg "_law_sky" s__law_sky
  f__law_lamp : Fn K mg "_law_lamp" s__law_lamp
  f__law_lamps : Fn K mg "_law_lamps" s__law_lamps
  f__law_state : Fn K mg "_law_state" s__law_state
  f__law_show : Fn K mg "_law_show" s__law_show
  f__law_item : Fn K mg "_law_item" s__law_item
  f__law_items : Fn K mg "_law_items" s__law_items
  f__law_steps : Fn K mg "_law_steps" s__law_steps
  f__law_plain : Fn K mg "_law_plain" s__law_plain
  f__law_beat : Fn K mg "_law_beat" s__law_beat
  f__law_more_right : Fn K mg "_law_more_right" s__law_more_right
  f__law_fewer_right : Fn K mg "_law_fewer_right" s__law_fewer_right
  f_law : Fn K mg "law" s_law
  b_abs : mg "abs" = none
  b_all : mg "all" = none
  b_bool : mg "bool" = none
  b_enumerate : mg "enumerate" = none
  b_int : mg "int" = none
  b_isinstance : mg "isinstance" = none
  b_len : mg "len" = none
  b_list : mg "list" = none
  b_max : mg "max" = none
  b_min : mg "min" = none
  b_range : mg "range" = none
  b_set : mg "set" = none
  b_sorted : mg "sorted" = none
  b_str : mg "str" = none
  b_tuple : mg "tuple" = none
  b_zip : mg "zip" = none
  i_LEAST_WIDE : ∃ t, mg "LEAST_WIDE" = some (.int 4 t)
  i_MOST_WIDE : ∃ t, mg "MOST_WIDE" = some (.int 12 t)
  i_MOST_HIGH : ∃ t, mg "MOST_HIGH" = some (.int 5 t)
  i_MOST_LIGHTS : ∃ t, mg "MOST_LIGHTS" = some (.int 6 t)
  i_MOST_SPEED : ∃ t, mg "MOST_SPEED" = some (.int 9 t)
  i_MOST_ROWS : ∃ t, mg "MOST_ROWS" = some (.int 4 t)
  i_MOST_LAMPS : ∃ t, mg "MOST_LAMPS" = some (.int 6 t)
  i_MOST_GO : ∃ t, mg "MOST_GO" = some (.int 99 t)
  i_MOST_TIMES : ∃ t, mg "MOST_TIMES" = some (.int 1000000 t)
  i_MOST_ITEMS : ∃ t, mg "MOST_ITEMS" = some (.int 8 t)
  i_MOST_DEEP : ∃ t, mg "MOST_DEEP" = some (.int 3 t)
  i_MOST_BEATS : ∃ t, mg "MOST_BEATS" = some (.int 100000000000 t)
  i_MOST_OFF : ∃ t, mg "MOST_OFF" = some (.int 9 t)
  s_AGAIN : ∃ t, mg "AGAIN" = some (.str "again" t)
  nothing : mg "NOTHING" = some (.ref (He.ga K "NOTHING"))
  zero : ∃ b, ∀ H : Hp, SqT K H (He.ga K "NOTHING") [.int 0, .int 0, .int 0, .ref b] ∧ SqT K H b []
structure Good (P : Program) (w : World) (K : PySem.W.Frag) (mg : Str → Option Value) (base : Heap) (k : Nat) (x : Str) (ps : List Str) (sp : Sp) : Prop where
  ex : ∃ fd, (FnOk P w K mg base CX0 k (He.ga K x) fd ps sp ∧ Binds K fd ps []) ∧ ∃ (oc : Value) (od : Option Addr) (osl : Array (Option Value)), K.lookup (He.ga K x) = some ⟨oc, od, .func fd, osl⟩
  kp : PySem.W.keepIn K (.ref (He.ga K x)) = true
  gl : mg x = some (.ref (He.ga K x))
section
variable {X : Cx} {k i : Nat} {x y : Str} {ps : List Str} {sp : Sp} {e : Expr} {es : List Expr} {t : TA} {p pos : Pos}
theorem pe_g (G : Good X.prog X.w X.K X.mg X.base k x ps sp) (hr : Room k X.A) (ha : PA X (e :: es) t) (hg : Gl X x := by rfl) (hdb : (x == ("__debug__" : Str)) = false := by decide)
    (he : starEach (e :: es) X.env = (false, eval e X.env) :: starEach es X.env := by rfl) (hpl : (backTo pos (starEach es X.env)).any (·.1) = false := by rfl) : PE X (.Call (.Name x p) (e :: es) [] pos) (tCall sp [] E0 t) := by
  obtain ⟨fd, ⟨F, B⟩, lk⟩ := G.ex
  exact pe_call F hr hg G.gl G.kp B .nil pass0 ha hdb he hpl
theorem pe_gf (G : Good X.prog X.w X.K X.mg X.base k x ps sp) (hg : Gl X x := by rfl) (hdb : (x == ("__debug__" : Str)) = false := by decide) : PE X (.Name x pos) (tC (.ref (He.ga X.K x))) := pe_glob hg G.gl rfl hdb
theorem pe_gi {n : Int} (h : ∃ t, X.mg x = some (.int n t)) (hg : Gl X x := by rfl) (hdb : (x == ("__debug__" : Str)) = false := by decide) : PE X (.Name x pos) (tC (.int n)) := by
  obtain ⟨t, h⟩ := h
  exact pe_glob hg h ⟨t, rfl⟩ hdb
theorem pe_gs {n : Str} (h : ∃ t, X.mg x = some (.str n t)) (hg : Gl X x := by rfl) (hdb : (x == ("__debug__" : Str)) = false := by decide) : PE X (.Name x pos) (tC (.str n)) := by
  obtain ⟨t, h⟩ := h
  exact pe_glob hg h ⟨t, rfl⟩ hdb
theorem pe_callLG (G : Good X.prog X.w X.K X.mg X.base k y ps sp) (hr : Room k X.A) (ha : PA X (e :: es) t) (hN : X.N[i]? = some x := by rfl) (hv : Vis X.env.scope x := by first | exact .inl rfl | exact .inr rfl)
    (hdb : (x == ("__debug__" : Str)) = false := by decide) (hcd : (x == ("__classdict__" : Str)) = false := by decide)
    (he : starEach (e :: es) X.env = (false, eval e X.env) :: starEach es X.env := by rfl) (hpl : (backTo pos (starEach es X.env)).any (·.1) = false := by rfl) : PE X (.Call (.Name x p) (e :: es) [] pos) (tCallL i (He.ga X.K y) sp [] E0 t) := by
  obtain ⟨fd, ⟨F, B⟩, lk⟩ := G.ex
  exact pe_callL F hr hN hv G.kp B .nil pass0 ha hdb hcd he hpl
end
section
variable {P : Program} {w : World} {K : PySem.W.Frag} {mg : Str → Option Value} {base : Heap} {k : Nat} {x : Str} {ps N : List Str} {sp sp' : Sp} {st : Stmt}
theorem FunD.lk {x q : Str} {a : Arguments} {b : List Stmt} {sc : Scope} {dvs : List V} {kws : List (Str × V)} {f : Addr} {fd : FuncData} (F : FunD K x q a b sc dvs kws f fd) : ∃ (oc : Value) (od : Option Addr) (osl : Array (Option Value)), K.lookup f = some ⟨oc, od, .func fd, osl⟩ := by
  obtain ⟨oc, od, dV, kV, doc, pm, an, cdv, ct, osl, e, lk, _⟩ := F.ex
  exact ⟨oc, od, osl, lk⟩
theorem Good.of (f : Fn K mg x st) (S : FnScope N ps (defScope st))
    (hb : ∀ (kV doc pm : Value) (an : Option Addr) (cdv ct : Value) (us : List Value), us.length = ps.length → bindArgs (PySem.W.fnOf x x (defArgs st) (defBody st) (defScope st) .none kV doc pm an cdv ct) ⟨us, []⟩ = pure (ps.zip us))
    (len : ∀ vs H Q E, sp vs H Q E → vs.length = ps.length)
    (body : ∀ (cdv : Value) (A : Around) (outer : List Env) (s : Shared) (H : Hp) (vs : List V) (Q : VK) (E : XK), Room k (A.deeper (envOfC x (defScope st) s.heap.objs.size (He.ga K x) cdv)) → sp vs H Q E →
      ∃ t, PSs (cxOf CX0 P w K mg base N x (defScope st) (He.ga K x) cdv A outer s H E).nox (defBody st) t ∧ t { nx := fun _ H' => Q .non H', rt := Q } (start N vs) H) : Good P w K mg base (k + 1) x ps sp := by
  obtain ⟨fd, F, g⟩ := f
  exact ⟨⟨fd, ⟨F.ok S len fun cdv A outer s H vs Q E hr h => by
    obtain ⟨t, h1, h2⟩ := body cdv A outer s H vs Q E hr h
    exact ⟨t, PSs.nox h1, h2⟩, F.bindsN hb⟩, FunD.lk F⟩, F.kp, g⟩
theorem Good.mono {j : Nat} (G : Good P w K mg base j x ps sp) (h : j ≤ k) : Good P w K mg base k x ps sp := by
  obtain ⟨fd, ⟨F, B⟩, lk⟩ := G.ex
  exact ⟨⟨fd, ⟨F.mono h, B⟩, lk⟩, G.kp, G.gl⟩
theorem Good.imp (G : Good P w K mg base k x ps sp) (h : ∀ vs H Q E, sp' vs H Q E → sp vs H Q E) : Good P w K mg base k x ps sp' := by
  obtain ⟨fd, ⟨F, B⟩, lk⟩ := G.ex
  exact ⟨⟨fd, ⟨F.imp h, B⟩, lk⟩, G.kp, G.gl⟩
/-- a promise that nothing asks -/
theorem Good.none (f : Fn K mg x st)
    (hb : ∀ (kV doc pm : Value) (an : Option Addr) (cdv ct : Value) (us : List Value), us.length = ps.length → bindArgs (PySem.W.fnOf x x (defArgs st) (defBody st) (defScope st) .none kV doc pm an cdv ct) ⟨us, []⟩ = pure (ps.zip us))
    (no : ∀ vs H Q E, ¬ sp vs H Q E) : Good P w K mg base k x ps sp := by
  obtain ⟨fd, F, g⟩ := f
  exact ⟨⟨fd, ⟨⟨fun vs H Q E h => absurd h (no vs H Q E), fun A outer s H args us vs Q E _ _ _ _ h => absurd h (no vs H Q E)⟩, F.bindsN hb⟩, FunD.lk F⟩, F.kp, g⟩
theorem spP_len {R : List PyData → PyData → Prop} {n : Nat} (h : ∀ ds d, R ds d → ds.length = n) (vs : List V) (H : Hp) (Q : VK) (E : XK) (q : spP K R vs H Q E) : vs.length = n := by
  obtain ⟨ds, d, ha, hR, _⟩ := q
  rw [ha.len]
  exact h ds d hR
section
variable {H : Hp} {vs : List V} {a b c d e f g : PyData}
theorem DtA.c1 (h : DtA K H vs [a]) : ∃ v1, vs = [v1] ∧ Dt K H v1 a := by
  cases h with | cons h1 h => cases h; exact ⟨_, rfl, h1⟩
theorem DtA.c2 (h : DtA K H vs [a, b]) : ∃ v1 v2, vs = [v1, v2] ∧ Dt K H v1 a ∧ Dt K H v2 b := by
  cases h with | cons h1 h => obtain ⟨v2, rfl, h2⟩ := h.c1; exact ⟨_, _, rfl, h1, h2⟩
theorem DtA.c3 (h : DtA K H vs [a, b, c]) : ∃ v1 v2 v3, vs = [v1, v2, v3] ∧ Dt K H v1 a ∧ Dt K H v2 b ∧ Dt K H v3 c := by
  cases h with | cons h1 h => obtain ⟨v2, v3, rfl, h2⟩ := h.c2; exact ⟨_, _, _, rfl, h1, h2⟩
theorem DtA.c4 (h : DtA K H vs [a, b, c, d]) : ∃ v1 v2 v3 v4, vs = [v1, v2, v3, v4] ∧ Dt K H v1 a ∧ Dt K H v2 b ∧ Dt K H v3 c ∧ Dt K H v4 d := by
  cases h with | cons h1 h => obtain ⟨v2, v3, v4, rfl, h2⟩ := h.c3; exact ⟨_, _, _, _, rfl, h1, h2⟩
theorem DtA.c5 (h : DtA K H vs [a, b, c, d, e]) : ∃ v1 v2 v3 v4 v5, vs = [v1, v2, v3, v4, v5] ∧ Dt K H v1 a ∧ Dt K H v2 b ∧ Dt K H v3 c ∧ Dt K H v4 d ∧ Dt K H v5 e := by
  cases h with | cons h1 h => obtain ⟨v2, v3, v4, v5, rfl, h2⟩ := h.c4; exact ⟨_, _, _, _, _, rfl, h1, h2⟩
theorem DtA.c6 (h : DtA K H vs [a, b, c, d, e, f]) : ∃ v1 v2 v3 v4 v5 v6, vs = [v1, v2, v3, v4, v5, v6] ∧ Dt K H v1 a ∧ Dt K H v2 b ∧ Dt K H v3 c ∧ Dt K H v4 d ∧ Dt K H v5 e ∧ Dt K H v6 f := by
  cases h with | cons h1 h => obtain ⟨v2, v3, v4, v5, v6, rfl, h2⟩ := h.c5; exact ⟨_, _, _, _, _, _, rfl, h1, h2⟩
theorem DtA.c7 (h : DtA K H vs [a, b, c, d, e, f, g]) : ∃ v1 v2 v3 v4 v5 v6 v7, vs = [v1, v2, v3, v4, v5, v6, v7] ∧ Dt K H v1 a ∧ Dt K H v2 b ∧ Dt K H v3 c ∧ Dt K H v4 d ∧ Dt K H v5 e ∧ Dt K H v6 f ∧ Dt K H v7 g := by
  cases h with | cons h1 h => obtain ⟨v2, v3, v4, v5, v6, v7, rfl, h2⟩ := h.c6; exact ⟨_, _, _, _, _, _, _, rfl, h1, h2⟩
end
end
def N_is_whole : List Str := ["thing"]
theorem sc_is_whole : FnScope N_is_whole ["thing"] (defScope s_is_whole) := ⟨rfl, rfl, rfl, by decide +kernel, rfl, by decide +kernel, by decide +kernel⟩
def N_is_among : List Str := ["thing", "low", "high"]
theorem sc_is_among : FnScope N_is_among ["thing", "low", "high"] (defScope s_is_among) := ⟨rfl, rfl, rfl, by decide +kernel, rfl, by decide +kernel, by decide +kernel⟩
def N_is_row : List Str := ["thing", "low", "high"]
theorem sc_is_row : FnScope N_is_row ["thing", "low", "high"] (defScope s_is_row) := ⟨rfl, rfl, rfl, by decide +kernel, rfl, by decide +kernel, by decide +kernel⟩
def N_is_light_of : List Str := ["thing", "wide", "high", "row"]
theorem sc_is_light_of : FnScope N_is_light_of ["thing", "wide", "high"] (defScope s_is_light_of) := ⟨rfl, rfl, rfl, by decide +kernel, rfl, by decide +kernel, by decide +kernel⟩
def N_is_sky : List Str := ["thing", "light"]
theorem sc_is_sky : FnScope N_is_sky ["thing"] (defScope s_is_sky) := ⟨rfl, rfl, rfl, by decide +kernel, rfl, by decide +kernel, by decide +kernel⟩
def N_need_sky : List Str := ["thing"]
theorem sc_need_sky : FnScope N_need_sky ["thing"] (defScope s_need_sky) := ⟨rfl, rfl, rfl, by decide +kernel, rfl, by decide +kernel, by decide +kernel⟩
def N_stands_by : List Str := ["sky", "light", "moment", "wide", "high", "lights", "column", "speed", "rows"]
theorem sc_stands_by : FnScope N_stands_by ["sky", "light", "moment"] (defScope s_stands_by) := ⟨rfl, rfl, rfl, by decide +kernel, rfl, by decide +kernel, by decide +kernel⟩
def N_is_back : List Str := ["light", "wide", "many", "column", "speed", "rows", "number", "row"]
theorem sc_is_back : FnScope N_is_back ["light", "wide", "many"] (defScope s_is_back) := ⟨rfl, rfl, rfl, by decide +kernel, rfl, by decide +kernel, by decide +kernel⟩
def N_round_of : List Str := ["sky", "wide", "high", "lights", "many", "light"]
theorem sc_round_of : FnScope N_round_of ["sky"] (defScope s_round_of) := ⟨rfl, rfl, rfl, by decide +kernel, rfl, by decide +kernel, by decide +kernel⟩
def N_half_of : List Str := ["sky"]
theorem sc_half_of : FnScope N_half_of ["sky"] (defScope s_half_of) := ⟨rfl, rfl, rfl, by decide +kernel, rfl, by decide +kernel, by decide +kernel⟩
def N_is_cell : List Str := ["sky", "thing"]
theorem sc_is_cell : FnScope N_is_cell ["sky", "thing"] (defScope s_is_cell) := ⟨rfl, rfl, rfl, by decide +kernel, rfl, by decide +kernel, by decide +kernel⟩
def N_up_by : List Str := ["sky", "light", "east", "north", "moment", "column", "row", "cell"]
theorem sc_up_by : FnScope N_up_by ["sky", "light", "east", "north", "moment"] (defScope s_up_by) := ⟨rfl, rfl, rfl, by decide +kernel, rfl, by decide +kernel, by decide +kernel⟩
def N_is_lamp : List Str := ["sky", "thing", "one"]
theorem sc_is_lamp : FnScope N_is_lamp ["sky", "thing"] (defScope s_is_lamp) := ⟨rfl, rfl, rfl, by decide +kernel, rfl, by decide +kernel, by decide +kernel⟩
def N_are_lamps : List Str := ["sky", "thing", "one"]
theorem sc_are_lamps : FnScope N_are_lamps ["sky", "thing"] (defScope s_are_lamps) := ⟨rfl, rfl, rfl, by decide +kernel, rfl, by decide +kernel, by decide +kernel⟩
def N_cells_of : List Str := ["sky", "column", "row"]
theorem sc_cells_of : FnScope N_cells_of ["sky"] (defScope s_cells_of) := ⟨rfl, rfl, rfl, by decide +kernel, rfl, by decide +kernel, by decide +kernel⟩
def N_covers : List Str := ["lamp", "cell", "first", "last", "low", "top"]
theorem sc_covers : FnScope N_covers ["lamp", "cell"] (defScope s_covers) := ⟨rfl, rfl, rfl, by decide +kernel, rfl, by decide +kernel, by decide +kernel⟩
def N_covering_by : List Str := ["lamps", "cell", "number", "lamp"]
theorem sc_covering_by : FnScope N_covering_by ["lamps", "cell"] (defScope s_covering_by) := ⟨rfl, rfl, rfl, by decide +kernel, rfl, by decide +kernel, by decide +kernel⟩
def N_is_item : List Str := ["sky", "thing", "deep", "one"]
theorem sc_is_item : FnScope N_is_item ["sky", "thing", "deep"] (defScope s_is_item) := ⟨rfl, rfl, rfl, by decide +kernel, rfl, by decide +kernel, by decide +kernel⟩
def N_are_items : List Str := ["sky", "thing", "deep", "one"]
theorem sc_are_items : FnScope N_are_items ["sky", "thing", "deep"] (defScope s_are_items) := ⟨rfl, rfl, rfl, by decide +kernel, rfl, by decide +kernel, by decide +kernel⟩
def N_size_of : List Str := ["items", "found", "item"]
theorem sc_size_of : FnScope N_size_of ["items"] (defScope s_size_of) := ⟨rfl, rfl, rfl, by decide +kernel, rfl, by decide +kernel, by decide +kernel⟩
def N_is_scene_by : List Str := ["sky", "thing"]
theorem sc_is_scene_by : FnScope N_is_scene_by ["sky", "thing"] (defScope s_is_scene_by) := ⟨rfl, rfl, rfl, by decide +kernel, rfl, by decide +kernel, by decide +kernel⟩
def N_need_scene : List Str := ["sky", "thing"]
theorem sc_need_scene : FnScope N_need_scene ["sky", "thing"] (defScope s_need_scene) := ⟨rfl, rfl, rfl, by decide +kernel, rfl, by decide +kernel, by decide +kernel⟩
def N_need_both : List Str := ["sky", "scene"]
theorem sc_need_both : FnScope N_need_both ["sky", "scene"] (defScope s_need_both) := ⟨rfl, rfl, rfl, by decide +kernel, rfl, by decide +kernel, by decide +kernel⟩
def N_beats_of : List Str := ["sky", "scene"]
theorem sc_beats_of : FnScope N_beats_of ["sky", "scene"] (defScope s_beats_of) := ⟨rfl, rfl, rfl, by decide +kernel, rfl, by decide +kernel, by decide +kernel⟩
def N_is_state : List Str := ["sky", "thing", "one", "other"]
theorem sc_is_state : FnScope N_is_state ["sky", "thing"] (defScope s_is_state) := ⟨rfl, rfl, rfl, by decide +kernel, rfl, by decide +kernel, by decide +kernel⟩
def N_need_state : List Str := ["sky", "thing"]
theorem sc_need_state : FnScope N_need_state ["sky", "thing"] (defScope s_need_state) := ⟨rfl, rfl, rfl, by decide +kernel, rfl, by decide +kernel, by decide +kernel⟩
def N_unlike : List Str := ["one", "other", "light"]
theorem sc_unlike : FnScope N_unlike ["one", "other"] (defScope s_unlike) := ⟨rfl, rfl, rfl, by decide +kernel, rfl, by decide +kernel, by decide +kernel⟩
def N_put_on : List Str := ["state", "sums", "added", "one", "more"]
theorem sc_put_on : FnScope N_put_on ["state", "sums"] (defScope s_put_on) := ⟨rfl, rfl, rfl, by decide +kernel, rfl, by decide +kernel, by decide +kernel⟩
def N_often : List Str := ["sums", "times", "one"]
theorem sc_often : FnScope N_often ["sums", "times"] (defScope s_often) := ⟨rfl, rfl, rfl, by decide +kernel, rfl, by decide +kernel, by decide +kernel⟩
def N_sums_in : List Str := ["item"]
theorem sc_sums_in : FnScope N_sums_in ["item"] (defScope s_sums_in) := ⟨rfl, rfl, rfl, by decide +kernel, rfl, by decide +kernel, by decide +kernel⟩
def N_sums_of : List Str := ["items", "found", "item"]
theorem sc_sums_of : FnScope N_sums_of ["items"] (defScope s_sums_of) := ⟨rfl, rfl, rfl, by decide +kernel, rfl, by decide +kernel, by decide +kernel⟩
def N_sums_to : List Str := ["items", "beats", "found", "item", "size", "own"]
theorem sc_sums_to : FnScope N_sums_to ["items", "beats"] (defScope s_sums_to) := ⟨rfl, rfl, rfl, by decide +kernel, rfl, by decide +kernel, by decide +kernel⟩
def N_led_by : List Str := ["items", "state", "beats"]
theorem sc_led_by : FnScope N_led_by ["items", "state", "beats"] (defScope s_led_by) := ⟨rfl, rfl, rfl, by decide +kernel, rfl, by decide +kernel, by decide +kernel⟩
def N_need_led : List Str := ["sky", "scene", "state", "beats"]
theorem sc_need_led : FnScope N_need_led ["sky", "scene", "state", "beats"] (defScope s_need_led) := ⟨rfl, rfl, rfl, by decide +kernel, rfl, by decide +kernel, by decide +kernel⟩
def N_led : List Str := ["sky", "scene", "state", "beats"]
theorem sc_led : FnScope N_led ["sky", "scene", "state", "beats"] (defScope s_led) := ⟨rfl, rfl, rfl, by decide +kernel, rfl, by decide +kernel, by decide +kernel⟩
def N_reach : List Str := ["items", "low", "top", "here", "item", "far", "least", "most"]
theorem sc_reach : FnScope N_reach ["items"] (defScope s_reach) := ⟨rfl, rfl, rfl, by decide +kernel, rfl, by decide +kernel, by decide +kernel⟩
def N_common : List Str := ["one", "other"]
theorem sc_common : FnScope N_common ["one", "other"] (defScope s_common) := ⟨rfl, rfl, rfl, by decide +kernel, rfl, by decide +kernel, by decide +kernel⟩
def N_turns_of : List Str := ["sky", "found", "more"]
theorem sc_turns_of : FnScope N_turns_of ["sky"] (defScope s_turns_of) := ⟨rfl, rfl, rfl, by decide +kernel, rfl, by decide +kernel, by decide +kernel⟩
def N_turns_near : List Str := ["sky", "again", "north", "most", "times", "items", "drift", "far", "low", "top", "near", "down", "up"]
theorem sc_turns_near : FnScope N_turns_near ["sky", "again", "north", "most"] (defScope s_turns_near) := ⟨rfl, rfl, rfl, by decide +kernel, rfl, by decide +kernel, by decide +kernel⟩
def N_found_in : List Str := ["sky", "items", "path", "state", "test", "thing", "look", "key", "gone", "number", "item", "found", "later"]
theorem sc_found_in : FnScope N_found_in ["sky", "items", "path", "state", "test", "thing", "look"] (defScope s_found_in) := ⟨rfl, rfl, rfl, by decide +kernel, rfl, by decide +kernel, by decide +kernel⟩
def N_found_again : List Str := ["sky", "again", "path", "state", "test", "thing", "look", "size", "sums", "first", "last", "turn", "found"]
theorem sc_found_again : FnScope N_found_again ["sky", "again", "path", "state", "test", "thing", "look"] (defScope s_found_again) := ⟨rfl, rfl, rfl, by decide +kernel, rfl, by decide +kernel, by decide +kernel⟩
def N_first_where : List Str := ["sky", "scene", "state", "test", "thing"]
theorem sc_first_where : FnScope N_first_where ["sky", "scene", "state", "test", "thing"] (defScope s_first_where) := ⟨rfl, rfl, rfl, by decide +kernel, rfl, by decide +kernel, by decide +kernel⟩
def N_is_show : List Str := ["sky", "thing", "off"]
theorem sc_is_show : FnScope N_is_show ["sky", "thing"] (defScope s_is_show) := ⟨rfl, rfl, rfl, by decide +kernel, rfl, by decide +kernel, by decide +kernel⟩
def N_need_show : List Str := ["sky", "thing"]
theorem sc_need_show : FnScope N_need_show ["sky", "thing"] (defScope s_need_show) := ⟨rfl, rfl, rfl, by decide +kernel, rfl, by decide +kernel, by decide +kernel⟩
def N_word_of : List Str := ["show", "cell", "lamps", "offs", "slack", "own", "lamp", "off"]
theorem sc_word_of : FnScope N_word_of ["show", "cell"] (defScope s_word_of) := ⟨rfl, rfl, rfl, by decide +kernel, rfl, by decide +kernel, by decide +kernel⟩
def N_cell_of : List Str := ["sky", "state", "light", "moment", "east", "north", "hidden"]
theorem sc_cell_of : FnScope N_cell_of ["sky", "state", "light"] (defScope s_cell_of) := ⟨rfl, rfl, rfl, by decide +kernel, rfl, by decide +kernel, by decide +kernel⟩
def N_fault_by : List Str := ["sky", "show", "state", "light", "cell", "word"]
theorem sc_fault_by : FnScope N_fault_by ["sky", "show", "state"] (defScope s_fault_by) := ⟨rfl, rfl, rfl, by decide +kernel, rfl, by decide +kernel, by decide +kernel⟩
def N_has_fault : List Str := ["sky", "show", "state"]
theorem sc_has_fault : FnScope N_has_fault ["sky", "show", "state"] (defScope s_has_fault) := ⟨rfl, rfl, rfl, by decide +kernel, rfl, by decide +kernel, by decide +kernel⟩
def N_fault : List Str := ["sky", "show", "state"]
theorem sc_fault : FnScope N_fault ["sky", "show", "state"] (defScope s_fault) := ⟨rfl, rfl, rfl, by decide +kernel, rfl, by decide +kernel, by decide +kernel⟩
def N_shown_at : List Str := ["show", "cell", "lamp"]
theorem sc_shown_at : FnScope N_shown_at ["show", "cell"] (defScope s_shown_at) := ⟨rfl, rfl, rfl, by decide +kernel, rfl, by decide +kernel, by decide +kernel⟩
def N_shown : List Str := ["sky", "show", "state", "light"]
theorem sc_shown : FnScope N_shown ["sky", "show", "state"] (defScope s_shown) := ⟨rfl, rfl, rfl, by decide +kernel, rfl, by decide +kernel, by decide +kernel⟩
def N_looked_through : List Str := ["sky", "show", "scene", "state", "beat"]
theorem sc_looked_through : FnScope N_looked_through ["sky", "show", "scene", "state"] (defScope s_looked_through) := ⟨rfl, rfl, rfl, by decide +kernel, rfl, by decide +kernel, by decide +kernel⟩
def N_bad_cells : List Str := ["sky", "show", "cell"]
theorem sc_bad_cells : FnScope N_bad_cells ["sky", "show"] (defScope s_bad_cells) := ⟨rfl, rfl, rfl, by decide +kernel, rfl, by decide +kernel, by decide +kernel⟩
def N__law_cell : List Str := ["_law_script", "_law_k"]
theorem sc__law_cell : FnScope N__law_cell ["_law_script", "_law_k"] (defScope s__law_cell) := ⟨rfl, rfl, rfl, by decide +kernel, rfl, by decide +kernel, by decide +kernel⟩
def N__law_pen : List Str := ["_law_cell_here"]
theorem sc__law_pen : FnScope N__law_pen ["_law_cell_here"] (defScope s__law_pen) := ⟨rfl, rfl, rfl, by decide +kernel, rfl, by decide +kernel, by decide +kernel⟩
def N__law_draw : List Str := ["_law_pen_here", "_law_many", "_law_digit", "_law_stir"]
theorem sc__law_draw : FnScope N__law_draw ["_law_pen_here", "_law_many"] (defScope s__law_draw) := ⟨rfl, rfl, rfl, by decide +kernel, rfl, by decide +kernel, by decide +kernel⟩
def N__law_sky : List Str := ["_law_pen_here", "_law_most", "_law_wide", "_law_high", "_law_lights", "_law_light", "_law_rows", "_law_turn"]
theorem sc__law_sky : FnScope N__law_sky ["_law_pen_here", "_law_most"] (defScope s__law_sky) := ⟨rfl, rfl, rfl, by decide +kernel, rfl, by decide +kernel, by decide +kernel⟩
def N__law_lamp : List Str := ["_law_pen_here", "_law_sky_here", "_law_half", "_law_high", "_law_first", "_law_low"]
theorem sc__law_lamp : FnScope N__law_lamp ["_law_pen_here", "_law_sky_here"] (defScope s__law_lamp) := ⟨rfl, rfl, rfl, by decide +kernel, rfl, by decide +kernel, by decide +kernel⟩
def N__law_lamps : List Str := ["_law_pen_here", "_law_sky_here", "_law_most", "_law_found", "_law_turn"]
theorem sc__law_lamps : FnScope N__law_lamps ["_law_pen_here", "_law_sky_here", "_law_most"] (defScope s__law_lamps) := ⟨rfl, rfl, rfl, by decide +kernel, rfl, by decide +kernel, by decide +kernel⟩
def N__law_state : List Str := ["_law_pen_here", "_law_sky_here", "_law_hidden", "_law_north", "_law_light"]
theorem sc__law_state : FnScope N__law_state ["_law_pen_here", "_law_sky_here"] (defScope s__law_state) := ⟨rfl, rfl, rfl, by decide +kernel, rfl, by decide +kernel, by decide +kernel⟩
def N__law_show : List Str := ["_law_pen_here", "_law_sky_here", "_law_most", "_law_lamps_here", "_law_offs", "_law_lamp_here"]
theorem sc__law_show : FnScope N__law_show ["_law_pen_here", "_law_sky_here", "_law_most"] (defScope s__law_show) := ⟨rfl, rfl, rfl, by decide +kernel, rfl, by decide +kernel, by decide +kernel⟩
def N__law_item : List Str := ["_law_pen_here", "_law_sky_here", "_law_deep", "_law_way"]
theorem sc__law_item : FnScope N__law_item ["_law_pen_here", "_law_sky_here", "_law_deep"] (defScope s__law_item) := ⟨rfl, rfl, rfl, by decide +kernel, rfl, by decide +kernel, by decide +kernel⟩
def N__law_items : List Str := ["_law_pen_here", "_law_sky_here", "_law_deep", "_law_turn"]
theorem sc__law_items : FnScope N__law_items ["_law_pen_here", "_law_sky_here", "_law_deep"] (defScope s__law_items) := ⟨rfl, rfl, rfl, by decide +kernel, rfl, by decide +kernel, by decide +kernel⟩
def N__law_plain : List Str := ["_law_items_here", "_law_found", "_law_item_here"]
theorem sc__law_plain : FnScope N__law_plain ["_law_items_here"] (defScope s__law_plain) := ⟨rfl, rfl, rfl, by decide +kernel, rfl, by decide +kernel, by decide +kernel⟩
def N__law_beat : List Str := ["_law_found", "_law_many"]
theorem sc__law_beat : FnScope N__law_beat ["_law_found", "_law_many"] (defScope s__law_beat) := ⟨rfl, rfl, rfl, by decide +kernel, rfl, by decide +kernel, by decide +kernel⟩
def N__law_more_right : List Str := ["_law_sky_here", "_law_show_here", "_law_scene", "_law_state_here", "_law_many", "_law_first", "_law_light", "_law_hidden", "_law_none"]
theorem sc__law_more_right : FnScope N__law_more_right ["_law_sky_here", "_law_show_here", "_law_scene", "_law_state_here"] (defScope s__law_more_right) := ⟨rfl, rfl, rfl, by decide +kernel, rfl, by decide +kernel, by decide +kernel⟩
def N__law_fewer_right : List Str := ["_law_sky_here", "_law_show_here", "_law_state_here", "_law_last", "_law_fewer", "_law_hidden", "_law_one", "_law_other", "_law_light"]
theorem sc__law_fewer_right : FnScope N__law_fewer_right ["_law_sky_here", "_law_show_here", "_law_state_here"] (defScope s__law_fewer_right) := ⟨rfl, rfl, rfl, by decide +kernel, rfl, by decide +kernel, by decide +kernel⟩
def N_law : List Str := ["_law_script", "_law_cell_here", "_law_pen_here", "_law_lap", "_law_sky_here", "_law_show_here", "_law_state_here", "_law_scene", "_law_light", "_law_twice", "_law_bare", "_law_one"]
theorem sc_law : FnScope N_law ["_law_script"] (defScope s_law) := ⟨rfl, rfl, rfl, by decide +kernel, rfl, by decide +kernel, by decide +kernel⟩
/-! ### the program's objects as data -/
def eL (ns : List Int) : PyData := .tuple (ns.map .int)
def eCell (c r : Int) : PyData := .tuple [.int c, .int r]
def eCellO : Option (Int × Int) → PyData
  | none => .none
  | some (c, r) => eCell c r
def eLight (l : Light) : PyData := .tuple [.int l.col, .int l.spd, eL l.rows]
def eSky (s : Sky) : PyData := .tuple [.int s.wide, .int s.high, .tuple (s.lights.map eLight)]
def eLamp (l : Lamp) : PyData := .tuple [.int l.first, .int l.last, .int l.low, .int l.top]
def eShow (w : Show) : PyData := .tuple [.tuple (w.lamps.map eLamp), eL w.offs, .int w.slack]
def eStt (s : Stt) : PyData := .tuple [.int s.m, .int s.e, .int s.n, eL s.hid]
mutual
def eItem : Item → PyData
  | .go m e n => .tuple [.str "go", .int m, .int e, .int n]
  | .flip l => .tuple [.str "flip", .int l]
  | .mark => .tuple [.str "mark"]
  | .again t xs => .tuple [.str "again", .int t, .tuple (eItems xs)]
def eItems : List Item → List PyData
  | [] => []
  | x :: r => eItem x :: eItems r
end
theorem eItems_map : ∀ xs : List Item, eItems xs = xs.map eItem
  | [] => rfl
  | x :: r => by rw [eItems, eItems_map r]; rfl
def eItemsT (xs : List Item) : PyData := .tuple (eItems xs)
def eStrO : Option Str → PyData
  | none => .none
  | some x => .str x
def eFault : Option (Int × Str) → PyData
  | none => .none
  | some (k, x) => .tuple [.int k, .str x]
def eIntO : Option Int → PyData
  | none => .none
  | some k => .int k
theorem atI_map {α : Type} {f : α → PyData} {xs : List α} {i : Int} {d : α} {k : Nat} (h : xs[k]? = some d) (e : i = (k : Int)) : atI (xs.map f) i = some (f d) := at_nat (by rw [List.getElem?_map, h]; rfl) e
theorem atI_ints {ns : List Int} {i : Int} (h1 : 0 ≤ i) (h2 : i.toNat < ns.length) : atI (ns.map PyData.int) i = some (.int (ns.getD i.toNat 0)) := by
  refine atI_map (k := i.toNat) (d := ns.getD i.toNat 0) ?_ (by omega)
  rw [List.getD_eq_getElem?_getD, List.getElem?_eq_getElem h2]
  rfl
end Dome
/-! skies -/
namespace Dome
open PySem PySem.Spec PyProof.Rows L2 Evl

inductive R_is_whole : List PyData → PyData → Prop
  | mk (i : Int) : R_is_whole [.int i] (.bool true)
abbrev sp_is_whole (K : PySem.W.Frag) : Sp := spP K R_is_whole
abbrev Gd_is_whole (P : Program) (w : World) (K : PySem.W.Frag) (mg : Str → Option Value) (base : Heap) : Prop := Good P w K mg base 1 "is_whole" ["thing"] (sp_is_whole K)
theorem ok_is_whole {P : Program} {w : World} {K : PySem.W.Frag} {mg : Str → Option Value} {base : Heap} (T : Txt K mg) : Gd_is_whole P w K mg base := by
  refine Good.of T.f_is_whole sc_is_whole (fun _ _ _ _ _ _ us hl => match us, hl with | [_], _ => rfl) (spP_len fun ds d hR => by cases hR <;> rfl) fun cdv A outer s H vs Q E hr h => ?_
  refine ⟨_, (pss_one (ps_ret (pe_and (pe_callB call_isi rfl (T.b_isinstance) (by decide +kernel) (pa_cons (pv 0) (pa_cons (pe_bltn (v := .ty "int") rfl (T.b_int) (by decide +kernel) rfl) pa_nil))) (pe_one (pe_not (pe_callB call_isi rfl (T.b_isinstance) (by decide +kernel) (pa_cons (pv 0) (pa_cons (pe_bltn (v := .ty "bool") rfl (T.b_bool) (by decide +kernel) rfl) pa_nil)))))))), ?_⟩
  obtain ⟨ds, d, ha, hR, hq⟩ := h
  cases hR with
  | mk i =>
  obtain ⟨v1, rfl, h1⟩ := ha.c1
  exact sd_ret (ed_andB (a := true) (b := true) (ed_isiInt (ed_var rfl h1)) fun _ => ed_notB (a := false) (ed_isiBool (ed_var rfl h1))) hq

inductive R_is_among : List PyData → PyData → Prop
  | mk (i lo hi : Int) : R_is_among [.int i, .int lo, .int hi] (.bool (decide (lo ≤ i) && decide (i ≤ hi)))
theorem among {i lo hi : Int} (h : lo ≤ i ∧ i ≤ hi) : R_is_among [.int i, .int lo, .int hi] (.bool true) := by
  have := R_is_among.mk i lo hi
  rw [decide_eq_true h.1, decide_eq_true h.2] at this
  exact this
abbrev sp_is_among (K : PySem.W.Frag) : Sp := spP K R_is_among
abbrev Gd_is_among (P : Program) (w : World) (K : PySem.W.Frag) (mg : Str → Option Value) (base : Heap) : Prop := Good P w K mg base 2 "is_among" ["thing", "low", "high"] (sp_is_among K)
theorem ok_is_among {P : Program} {w : World} {K : PySem.W.Frag} {mg : Str → Option Value} {base : Heap} (T : Txt K mg) (G_is_whole : Gd_is_whole P w K mg base) : Gd_is_among P w K mg base := by
  refine Good.of T.f_is_among sc_is_among (fun _ _ _ _ _ _ us hl => match us, hl with | [_, _, _], _ => rfl) (spP_len fun ds d hR => by cases hR <;> rfl) fun cdv A outer s H vs Q E hr h => ?_
  refine ⟨_, (pss_one (ps_ret (pe_and (pe_g G_is_whole (hr.mono (by omega)) (pa_cons (pv 0) pa_nil)) (pe_one (pe_chain op_le op_le (pv 1) (pv 0) (pv 2)))))), ?_⟩
  obtain ⟨ds, d, ha, hR, hq⟩ := h
  cases hR with
  | mk i lo hi =>
  obtain ⟨v1, v2, v3, rfl, h1, h2, h3⟩ := ha.c3
  exact sd_ret (ed_andB (a := true) (ed_call (ea_cons (ed_var rfl h1) ea_nil) (.mk i)) fun _ => ed_chainLe (ed_var rfl h2) (ed_var rfl h1) (ed_var rfl h3)) hq

inductive R_is_row : List PyData → PyData → Prop
  | mk (xs : List PyData) (lo hi : Int) : R_is_row [.tuple xs, .int lo, .int hi] (.bool (decide (lo ≤ (xs.length : Int)) && decide ((xs.length : Int) ≤ hi)))
theorem isRow {xs : List PyData} {lo hi : Int} (h : lo ≤ (xs.length : Int) ∧ (xs.length : Int) ≤ hi) : R_is_row [.tuple xs, .int lo, .int hi] (.bool true) := by
  have := R_is_row.mk xs lo hi
  rw [decide_eq_true h.1, decide_eq_true h.2] at this
  exact this
abbrev sp_is_row (K : PySem.W.Frag) : Sp := spP K R_is_row
abbrev Gd_is_row (P : Program) (w : World) (K : PySem.W.Frag) (mg : Str → Option Value) (base : Heap) : Prop := Good P w K mg base 1 "is_row" ["thing", "low", "high"] (sp_is_row K)
theorem ok_is_row {P : Program} {w : World} {K : PySem.W.Frag} {mg : Str → Option Value} {base : Heap} (T : Txt K mg) : Gd_is_row P w K mg base := by
  refine Good.of T.f_is_row sc_is_row (fun _ _ _ _ _ _ us hl => match us, hl with | [_, _, _], _ => rfl) (spP_len fun ds d hR => by cases hR <;> rfl) fun cdv A outer s H vs Q E hr h => ?_
  refine ⟨_, (pss_one (ps_ret (pe_and (pe_callB call_isi rfl (T.b_isinstance) (by decide +kernel) (pa_cons (pv 0) (pa_cons (pe_bltn (v := .ty "tuple") rfl (T.b_tuple) (by decide +kernel) rfl) pa_nil))) (pe_one (pe_chain op_le op_le (pv 1) (pe_callB (show CallR _ (.builtin "len") (rLenQ K) from call_len_seq) rfl (T.b_len) (by decide +kernel) (pa_cons (pv 0) pa_nil)) (pv 2)))))), ?_⟩
  obtain ⟨ds, d, ha, hR, hq⟩ := h
  cases hR with
  | mk xs lo hi =>
  obtain ⟨v1, v2, v3, rfl, h1, h2, h3⟩ := ha.c3
  exact sd_ret (ed_andB (a := true) (ed_isiTup (ed_var rfl h1)) fun _ => ed_chainLe (ed_var rfl h2) (ed_len (ed_var rfl h1)) (ed_var rfl h3)) hq

inductive R_is_light_of : List PyData → PyData → Prop
  | mk (l : Light) (w h : Int) : l.ok w h → R_is_light_of [eLight l, .int w, .int h] (.bool true)
abbrev sp_is_light_of (K : PySem.W.Frag) : Sp := spP K R_is_light_of
abbrev Gd_is_light_of (P : Program) (w : World) (K : PySem.W.Frag) (mg : Str → Option Value) (base : Heap) : Prop := Good P w K mg base 3 "is_light_of" ["thing", "wide", "high"] (sp_is_light_of K)
theorem ok_is_light_of {P : Program} {w : World} {K : PySem.W.Frag} {mg : Str → Option Value} {base : Heap} (T : Txt K mg) (G_is_row : Gd_is_row P w K mg base) (G_is_among : Gd_is_among P w K mg base) : Gd_is_light_of P w K mg base := by
  refine Good.of T.f_is_light_of sc_is_light_of (fun _ _ _ _ _ _ us hl => match us, hl with | [_, _, _], _ => rfl) (spP_len fun ds d hR => by cases hR <;> rfl) fun cdv A outer s H vs Q E hr h => ?_
  refine ⟨_, (pss_cons (ps_if (PW.pt (pw_or (pt_not (pt_val (pe_g G_is_row (hr.mono (by omega)) (pa_cons (pv 0) (pa_cons pe_int (pa_cons pe_int pa_nil)))))) (pw_or1 (pt_not (pt_val (pe_g G_is_among (hr.mono (by omega)) (pa_cons (pe_ix (show IxR _ (rIxT K) from ix_tup) (pv 0) pe_int (fun _ _ => rfl)) (pa_cons pe_int (pa_cons (pe_op op_sub (pv 1) pe_int) pa_nil))))))))) (pss_one (ps_ret pe_bl)) pss_nil)
    (pss_cons (ps_if (PW.pt (pw_or (pt_not (pt_val (pe_g G_is_among (hr.mono (by omega)) (pa_cons (pe_ix (show IxR _ (rIxT K) from ix_tup) (pv 0) pe_int (fun _ _ => rfl)) (pa_cons (pe_un un_neg (pe_gi (T.i_MOST_SPEED))) (pa_cons (pe_gi (T.i_MOST_SPEED)) pa_nil)))))) (pw_or1 (pt_not (pt_val (pe_g G_is_row (hr.mono (by omega)) (pa_cons (pe_ix (show IxR _ (rIxT K) from ix_tup) (pv 0) pe_int (fun _ _ => rfl)) (pa_cons pe_int (pa_cons (pe_gi (T.i_MOST_ROWS)) pa_nil))))))))) (pss_one (ps_ret pe_bl)) pss_nil)
    (pss_one (ps_ret (pe_callB (cr_all rfl) rfl (T.b_all) (by decide +kernel) (pa_cons (pe_lc rfl sc_is_light_of.nd (pi_tup (pe_ix (show IxR _ (rIxT K) from ix_tup) (pv 0) pe_int (fun _ _ => rfl))) (blkOk_by (own := [("row", 3)]) (N := N_is_light_of) (sc := defScope s_is_light_of) (by decide +kernel)) (fun _ _ _ _ _ => (pg_name (i := 3) sc_is_light_of.nd rfl (.inl rfl))) (fun _ _ _ _ _ => pts_nil) (fun _ _ _ _ _ => (pe_g G_is_among (hr.mono (by omega)) (pa_cons (pv 3) (pa_cons pe_int (pa_cons (pe_op op_sub (pv 2) pe_int) pa_nil)))))) pa_nil)))))), ?_⟩
  obtain ⟨ds, d, ha, hR, hq⟩ := h
  cases hR with
  | mk l w h hl =>
  obtain ⟨v1, v2, v3, rfl, h1, h2, h3⟩ := ha.c3
  obtain ⟨l1, l2, l3, l4, l5, l6, l7⟩ := hl
  refine (sq_no (eb_or (a := false) (b := false) (eb_not (a := true) (eb_val (ed_call (ea_cons (ed_var rfl h1) (ea_cons ed_int (ea_cons ed_int ea_nil))) (isRow ⟨Int.le_refl 3, Int.le_refl 3⟩)))) fun _ => eb_not (a := true) (eb_val (ed_call (ea_cons (ed_ix (ed_var rfl h1) ed_int rfl) (ea_cons ed_int (ea_cons (ed_sub (ed_var rfl h2) ed_int) ea_nil))) (among ⟨l1, l2⟩)))) fun H1 e1 => ?_)
  have h1 := h1.ex e1
  have h2 := h2.ex e1
  have h3 := h3.ex e1
  refine (sq_no (eb_or (a := false) (b := false) (eb_not (a := true) (eb_val (ed_call (ea_cons (ed_ix (ed_var rfl h1) ed_int rfl) (ea_cons (ed_neg ed_int) (ea_cons ed_int ea_nil))) (among ⟨l3, l4⟩)))) fun _ => eb_not (a := true) (eb_val (ed_call (ea_cons (ed_ix (ed_var rfl h1) ed_int rfl) (ea_cons ed_int (ea_cons ed_int ea_nil))) (isRow ⟨by rw [List.length_map]; omega, by rw [List.length_map]; omega⟩)))) fun H2 e2 => ?_)
  have h1 := h1.ex e2
  have h2 := h2.ex e2
  have h3 := h3.ex e2
  exact sd_ret (ed_allT (el_mapT (fun _ => .bool true) (ed_ix (ed_var rfl h1) ed_int rfl) (fun _ => rfl) (fun r hr v H3 t k => ed_call (ea_cons (ed_var rfl k) (ea_cons ed_int (ea_cons (ed_sub (ed_var rfl (h3.at t)) ed_int) ea_nil))) (among (l7 r hr))) (by omega))) fun v H3 e3 => hq v H3 ((e1.trans e2).trans e3)

inductive R_is_sky : List PyData → PyData → Prop
  | mk (s : Sky) : s.ok → R_is_sky [eSky s] (.bool true)
abbrev sp_is_sky (K : PySem.W.Frag) : Sp := spP K R_is_sky
abbrev Gd_is_sky (P : Program) (w : World) (K : PySem.W.Frag) (mg : Str → Option Value) (base : Heap) : Prop := Good P w K mg base 4 "is_sky" ["thing"] (sp_is_sky K)
theorem ok_is_sky {P : Program} {w : World} {K : PySem.W.Frag} {mg : Str → Option Value} {base : Heap} (T : Txt K mg) (G_is_row : Gd_is_row P w K mg base) (G_is_among : Gd_is_among P w K mg base) (G_is_light_of : Gd_is_light_of P w K mg base) : Gd_is_sky P w K mg base := by
  refine Good.of T.f_is_sky sc_is_sky (fun _ _ _ _ _ _ us hl => match us, hl with | [_], _ => rfl) (spP_len fun ds d hR => by cases hR <;> rfl) fun cdv A outer s H vs Q E hr h => ?_
  refine ⟨_, (pss_cons (ps_if (PW.pt (pw_or (pt_not (pt_val (pe_g G_is_row (hr.mono (by omega)) (pa_cons (pv 0) (pa_cons pe_int (pa_cons pe_int pa_nil)))))) (pw_or1 (pt_not (pt_val (pe_g G_is_among (hr.mono (by omega)) (pa_cons (pe_ix (show IxR _ (rIxT K) from ix_tup) (pv 0) pe_int (fun _ _ => rfl)) (pa_cons (pe_gi (T.i_LEAST_WIDE)) (pa_cons (pe_gi (T.i_MOST_WIDE)) pa_nil))))))))) (pss_one (ps_ret pe_bl)) pss_nil)
    (pss_cons (ps_if (PW.pt (pw_or (pt_not (pt_val (pe_g G_is_among (hr.mono (by omega)) (pa_cons (pe_ix (show IxR _ (rIxT K) from ix_tup) (pv 0) pe_int (fun _ _ => rfl)) (pa_cons pe_int (pa_cons (pe_gi (T.i_MOST_HIGH)) pa_nil)))))) (pw_or1 (pt_not (pt_val (pe_g G_is_row (hr.mono (by omega)) (pa_cons (pe_ix (show IxR _ (rIxT K) from ix_tup) (pv 0) pe_int (fun _ _ => rfl)) (pa_cons pe_int (pa_cons (pe_gi (T.i_MOST_LIGHTS)) pa_nil))))))))) (pss_one (ps_ret pe_bl)) pss_nil)
    (pss_one (ps_ret (pe_callB (cr_all rfl) rfl (T.b_all) (by decide +kernel) (pa_cons (pe_lc rfl sc_is_sky.nd (pi_tup (pe_ix (show IxR _ (rIxT K) from ix_tup) (pv 0) pe_int (fun _ _ => rfl))) (blkOk_by (own := [("light", 1)]) (N := N_is_sky) (sc := defScope s_is_sky) (by decide +kernel)) (fun _ _ _ _ _ => (pg_name (i := 1) sc_is_sky.nd rfl (.inl rfl))) (fun _ _ _ _ _ => pts_nil) (fun _ _ _ _ _ => (pe_g G_is_light_of (hr.mono (by omega)) (pa_cons (pv 1) (pa_cons (pe_ix (show IxR _ (rIxT K) from ix_tup) (pv 0) pe_int (fun _ _ => rfl)) (pa_cons (pe_ix (show IxR _ (rIxT K) from ix_tup) (pv 0) pe_int (fun _ _ => rfl)) pa_nil)))))) pa_nil)))))), ?_⟩
  obtain ⟨ds, d, ha, hR, hq⟩ := h
  cases hR with
  | mk s hs =>
  obtain ⟨v1, rfl, h1⟩ := ha.c1
  refine (sq_no (eb_or (a := false) (b := false) (eb_not (a := true) (eb_val (ed_call (ea_cons (ed_var rfl h1) (ea_cons ed_int (ea_cons ed_int ea_nil))) (isRow ⟨Int.le_refl 3, Int.le_refl 3⟩)))) fun _ => eb_not (a := true) (eb_val (ed_call (ea_cons (ed_ix (ed_var rfl h1) ed_int rfl) (ea_cons ed_int (ea_cons ed_int ea_nil))) (among ⟨hs.w1, hs.w2⟩)))) fun H1 e1 => ?_)
  have h1 := h1.ex e1
  refine (sq_no (eb_or (a := false) (b := false) (eb_not (a := true) (eb_val (ed_call (ea_cons (ed_ix (ed_var rfl h1) ed_int rfl) (ea_cons ed_int (ea_cons ed_int ea_nil))) (among ⟨hs.h1, hs.h2⟩)))) fun _ => eb_not (a := true) (eb_val (ed_call (ea_cons (ed_ix (ed_var rfl h1) ed_int rfl) (ea_cons ed_int (ea_cons ed_int ea_nil))) (isRow ⟨by rw [List.length_map]; have := hs.n1; omega, by rw [List.length_map]; have := hs.n2; omega⟩)))) fun H2 e2 => ?_)
  have h1 := h1.ex e2
  exact sd_ret (ed_allT (el_mapT (fun _ => .bool true) (ed_ix (ed_var rfl h1) ed_int rfl) (fun _ => rfl) (fun l hl v H3 t k => ed_call (ea_cons (ed_var rfl k) (ea_cons (ed_ix (ed_var rfl (h1.at t)) ed_int rfl) (ea_cons (ed_ix (ed_var rfl (h1.at t)) ed_int rfl) ea_nil))) (.mk l _ _ (hs.ls l hl))) (by have := hs.n2; omega))) fun v H3 e3 => hq v H3 ((e1.trans e2).trans e3)

inductive R_need_sky : List PyData → PyData → Prop
  | mk (s : Sky) : s.ok → R_need_sky [eSky s] .none
abbrev sp_need_sky (K : PySem.W.Frag) : Sp := spP K R_need_sky
abbrev Gd_need_sky (P : Program) (w : World) (K : PySem.W.Frag) (mg : Str → Option Value) (base : Heap) : Prop := Good P w K mg base 5 "need_sky" ["thing"] (sp_need_sky K)
theorem ok_need_sky {P : Program} {w : World} {K : PySem.W.Frag} {mg : Str → Option Value} {base : Heap} (T : Txt K mg) (G_is_sky : Gd_is_sky P w K mg base) : Gd_need_sky P w K mg base := by
  refine Good.of T.f_need_sky sc_need_sky (fun _ _ _ _ _ _ us hl => match us, hl with | [_], _ => rfl) (spP_len fun ds d hR => by cases hR <;> rfl) fun cdv A outer s H vs Q E hr h => ?_
  refine ⟨_, (pss_one (ps_if (pt_not (pt_val (pe_g G_is_sky (hr.mono (by omega)) (pa_cons (pv 0) pa_nil)))) (pss_one ps_never) pss_nil)), ?_⟩
  obtain ⟨ds, d, ha, hR, hq⟩ := h
  cases hR with
  | mk s hs =>
  obtain ⟨v1, rfl, h1⟩ := ha.c1
  exact sd_if (b := false) (eb_not (a := true) (eb_val (ed_call (ea_cons (ed_var rfl h1) ea_nil) (.mk s hs)))) (fun e => nomatch e) fun _ H1 e1 => hq .non H1 e1 .non

inductive R_stands_by : List PyData → PyData → Prop
  | mk (s : Sky) (k : Nat) (l : Light) (t : Int) : s.ok → s.lights[k]? = some l → R_stands_by [eSky s, .int (k : Int), .int t] (eCell (stands s l t).1 (stands s l t).2)
abbrev sp_stands_by (K : PySem.W.Frag) : Sp := spP K R_stands_by
theorem row_at {l : Light} {w h t : Int} (hl : l.ok w h) : atI (l.rows.map PyData.int) (t % (l.rows.length : Int)) = some (.int (nthRow l t)) := by
  have h5 := hl.2.2.2.2.1
  have n1 : 0 ≤ t % (l.rows.length : Int) := Int.emod_nonneg _ (by omega)
  have n2 : t % (l.rows.length : Int) < (l.rows.length : Int) := Int.emod_lt_of_pos _ (by omega)
  exact atI_ints n1 (by omega)
abbrev Gd_stands_by (P : Program) (w : World) (K : PySem.W.Frag) (mg : Str → Option Value) (base : Heap) : Prop := Good P w K mg base 1 "stands_by" ["sky", "light", "moment"] (sp_stands_by K)
theorem ok_stands_by {P : Program} {w : World} {K : PySem.W.Frag} {mg : Str → Option Value} {base : Heap} (T : Txt K mg) : Gd_stands_by P w K mg base := by
  refine Good.of T.f_stands_by sc_stands_by (fun _ _ _ _ _ _ us hl => match us, hl with | [_, _, _], _ => rfl) (spP_len fun ds d hR => by cases hR <;> rfl) fun cdv A outer s H vs Q E hr h => ?_
  refine ⟨_, (pss_cons (ps_asg (pv 0) (show PG _ _ (gTup K 3 (gCons (gName 3) (gCons (gName 4) (gCons (gName 5) gNil)))) from pg_tup rfl (pgs_cons (pg_name (i := 3) sc_stands_by.nd rfl (.inl rfl)) (pgs_cons (pg_name (i := 4) sc_stands_by.nd rfl (.inl rfl)) (pgs_cons (pg_name (i := 5) sc_stands_by.nd rfl (.inl rfl)) pgs_nil)))))
    (pss_cons (ps_asg (pe_ix (show IxR _ (rIxT K) from ix_tup) (pv 5) (pv 1) (fun _ _ => rfl)) (show PG _ _ (gTup K 3 (gCons (gName 6) (gCons (gName 7) (gCons (gName 8) gNil)))) from pg_tup rfl (pgs_cons (pg_name (i := 6) sc_stands_by.nd rfl (.inl rfl)) (pgs_cons (pg_name (i := 7) sc_stands_by.nd rfl (.inl rfl)) (pgs_cons (pg_name (i := 8) sc_stands_by.nd rfl (.inl rfl)) pgs_nil)))))
    (pss_one (ps_ret (pe_tup (pa_cons (pe_op op_mod (pe_op op_add (pv 6) (pe_op op_mul (pv 7) (pv 2))) (pv 3)) (pa_cons (pe_ix (show IxR _ (rIxT K) from ix_tup) (pv 8) (pe_op op_mod (pv 2) (pe_callB (show CallR _ (.builtin "len") (rLenQ K) from call_len_seq) rfl (T.b_len) (by decide +kernel) (pa_cons (pv 8) pa_nil))) (fun _ _ => rfl)) pa_nil))))))), ?_⟩
  obtain ⟨ds, d, ha, hR, hq⟩ := h
  cases hR with
  | mk s k l t hs hk =>
  obtain ⟨v1, v2, v3, rfl, h1, h2, h3⟩ := ha.c3
  have hl := hs.ls l (List.mem_of_getElem? hk)
  have h5 := hl.2.2.2.2.1
  refine (sq_un3 (ed_var rfl h1) fun x1 x2 x3 H1 e1 k1 k2 k3 => ?_)
  have h2 := h2.ex e1
  have h3 := h3.ex e1
  refine (sq_un3 (ed_ix (ed_var rfl k3) (ed_var rfl h2) (atI_map hk rfl)) fun y1 y2 y3 H2 e2 m1 m2 m3 => ?_)
  have h3 := h3.ex e2
  have k1 := k1.ex e2
  exact sd_ret (ed_tup (ea_cons (ed_mod (ed_add (ed_var rfl m1) (ed_mul (ed_var rfl m2) (ed_var rfl h3) (.inl ⟨by have := hl.2.2.1; omega, by have := hl.2.2.2.1; omega⟩))) (ed_var rfl k1) (by have := hs.w1; omega)) (ea_cons (ed_ix (ed_var rfl m3) (ed_mod (ed_var rfl h3) (ed_len (ed_var rfl m3)) (by rw [List.length_map]; omega)) (by rw [List.length_map]; exact row_at hl)) ea_nil))) fun v H3 e3 => hq v H3 ((e1.trans e2).trans e3)

inductive R_is_back : List PyData → PyData → Prop
  | mk (s : Sky) (l : Light) (many : Nat) : s.ok → l ∈ s.lights → R_is_back [eLight l, .int s.wide, .int (many : Int)] (.bool (backB s l many))
abbrev sp_is_back (K : PySem.W.Frag) : Sp := spP K R_is_back
abbrev Gd_is_back (P : Program) (w : World) (K : PySem.W.Frag) (mg : Str → Option Value) (base : Heap) : Prop := Good P w K mg base 1 "is_back" ["light", "wide", "many"] (sp_is_back K)
theorem ok_is_back {P : Program} {w : World} {K : PySem.W.Frag} {mg : Str → Option Value} {base : Heap} (T : Txt K mg) : Gd_is_back P w K mg base := by
  refine Good.of T.f_is_back sc_is_back (fun _ _ _ _ _ _ us hl => match us, hl with | [_, _, _], _ => rfl) (spP_len fun ds d hR => by cases hR <;> rfl) fun cdv A outer s H vs Q E hr h => ?_
  refine ⟨_, (pss_cons (ps_asg (pv 0) (show PG _ _ (gTup K 3 (gCons (gName 3) (gCons (gName 4) (gCons (gName 5) gNil)))) from pg_tup rfl (pgs_cons (pg_name (i := 3) sc_is_back.nd rfl (.inl rfl)) (pgs_cons (pg_name (i := 4) sc_is_back.nd rfl (.inl rfl)) (pgs_cons (pg_name (i := 5) sc_is_back.nd rfl (.inr rfl)) pgs_nil)))))
    (pss_cons (ps_if (pt_cmpR op_ne (pe_op op_mod (pe_op op_mul (pv 4) (pv 2)) (pv 1)) pe_int (nomark _)) (pss_one (ps_ret pe_bl)) pss_nil)
    (pss_one (ps_ret (pe_callB (cr_all rfl) rfl (T.b_all) (by decide +kernel) (pa_cons (pe_lc rfl sc_is_back.nd (pi_enumT rfl (T.b_enumerate) (pa_cons (pv 5) pa_nil)) (blkOk_by (own := [("number", 6), ("row", 7)]) (N := N_is_back) (sc := defScope s_is_back) (by decide +kernel)) (fun _ _ _ _ _ => (show PG _ _ (gTup K 2 (gCons (gName 6) (gCons (gName 7) gNil))) from pg_tup rfl (pgs_cons (pg_name (i := 6) sc_is_back.nd rfl (.inl rfl)) (pgs_cons (pg_name (i := 7) sc_is_back.nd rfl (.inl rfl)) pgs_nil)))) (fun _ _ _ _ _ => pts_nil) (fun _ _ _ _ _ => (pe_cmpR op_eq (pe_ix (show IxR _ (rIxT K) from ix_tup) (pv 5) (pe_op op_mod (pe_op op_add (pv 6) (pv 2)) (pe_callB (show CallR _ (.builtin "len") (rLenQ K) from call_len_seq) rfl (T.b_len) (by decide +kernel) (pa_cons (pv 5) pa_nil))) (fun _ _ => rfl)) (pv 7) (nomark _)))) pa_nil)))))), ?_⟩
  obtain ⟨ds, d, ha, hR, hq⟩ := h
  cases hR with
  | mk s l many hs hm =>
  obtain ⟨v1, v2, v3, rfl, h1, h2, h3⟩ := ha.c3
  have hl := hs.ls l hm
  have h5 := hl.2.2.2.2.1
  have h6 := hl.2.2.2.2.2.1
  refine (sq_un3 (ed_var rfl h1) fun x1 x2 x3 H1 e1 k1 k2 k3 => ?_)
  have h2 := h2.ex e1
  have h3 := h3.ex e1
  refine (sq_ifN (b := !decide (l.spd * (many : Int) % s.wide = 0)) (eb_val (ed_neI (ed_mod (ed_mul (ed_var rfl k2) (ed_var rfl h3) (.inl ⟨by have := hl.2.2.1; omega, by have := hl.2.2.2.1; omega⟩)) (ed_var rfl h2) (by have := hs.w1; omega)) ed_int)) (fun c H2 e2 => ?_) fun c H2 e2 => ?_)
  · refine sd_ret (K := K) ed_bl fun v H3 e3 kv => hq v H3 ((e1.trans e2).trans e3) ?_
    have c2 : ¬ l.spd * (many : Int) % s.wide = 0 := of_decide_eq_false (by simpa using c)
    have e : backB s l many = false := by
      unfold backB
      rw [show (l.spd * (many : Int) % s.wide == 0) = false from by simpa using c2]
      rfl
    rw [e]
    exact kv
  · have h3 := h3.ex e2
    have k3 := k3.ex e2
    have c2 : l.spd * (many : Int) % s.wide = 0 := of_decide_eq_true (by simpa using c)
    have e : backB s l many = ((List.range l.rows.length).map fun i => decide (l.rows.getD ((((i : Nat) : Int) + (many : Int)) % (l.rows.length : Int)).toNat 0 = l.rows.getD i 0)).all id := by
      unfold backB
      rw [show (l.spd * (many : Int) % s.wide == 0) = true from by simpa using c2, Bool.true_and, List.all_map]
      rfl
    refine sd_ret (ed_is (ed_all (bs := (List.range l.rows.length).map fun i => decide (l.rows.getD ((((i : Nat) : Int) + (many : Int)) % (l.rows.length : Int)).toNat 0 = l.rows.getD i 0)) (el_is (el_lcE (fun _ => true) (fun i => .bool (decide (l.rows.getD ((((i : Nat) : Int) + (many : Int)) % (l.rows.length : Int)).toNat 0 = l.rows.getD i 0))) (ea_cons (ed_var rfl k3) ea_nil) (by rw [List.length_map]; omega) (fun _ _ => rfl) (fun _ _ _ _ _ _ => eb_yes) fun i hi _ u H3 t3 ku => ?_) ?_)) ?_) fun v H3 e3 => hq v H3 ((e1.trans e2).trans e3)
    · rw [List.length_map] at hi
      have ei : l.rows[i]? = some l.rows[i] := List.getElem?_eq_getElem hi
      rw [getD_map (enc := PyData.int) ei] at ku
      have n1 : 0 ≤ ((i : Int) + (many : Int)) % (l.rows.length : Int) := Int.emod_nonneg _ (by omega)
      have n2 : ((i : Int) + (many : Int)) % (l.rows.length : Int) < (l.rows.length : Int) := Int.emod_lt_of_pos _ (by omega)
      have eg : l.rows.getD i 0 = l.rows[i] := by rw [List.getD_eq_getElem?_getD, ei]; rfl
      rw [eg]
      exact ed_eqI (ed_ix (ed_var rfl (k3.at t3)) (ed_mod (ed_add (ed_var rfl (.int _)) (ed_var rfl (h3.at t3))) (ed_len (ed_var rfl (k3.at t3))) (by rw [List.length_map]; omega)) (by rw [List.length_map]; exact atI_ints n1 (by omega))) (ed_var rfl ku)
    · rw [giv_range, List.length_map, List.map_map]
      rfl
    · rw [e]

inductive R_half_of : List PyData → PyData → Prop
  | mk (s : Sky) : R_half_of [eSky s] (.int (s.wide / 2))
abbrev sp_half_of (K : PySem.W.Frag) : Sp := spP K R_half_of
abbrev Gd_half_of (P : Program) (w : World) (K : PySem.W.Frag) (mg : Str → Option Value) (base : Heap) : Prop := Good P w K mg base 1 "half_of" ["sky"] (sp_half_of K)
theorem ok_half_of {P : Program} {w : World} {K : PySem.W.Frag} {mg : Str → Option Value} {base : Heap} (T : Txt K mg) : Gd_half_of P w K mg base := by
  refine Good.of T.f_half_of sc_half_of (fun _ _ _ _ _ _ us hl => match us, hl with | [_], _ => rfl) (spP_len fun ds d hR => by cases hR <;> rfl) fun cdv A outer s H vs Q E hr h => ?_
  refine ⟨_, (pss_one (ps_ret (pe_op op_fdiv (pe_ix (show IxR _ (rIxT K) from ix_tup) (pv 0) pe_int (fun _ _ => rfl)) pe_int))), ?_⟩
  obtain ⟨ds, d, ha, hR, hq⟩ := h
  cases hR with
  | mk s =>
  obtain ⟨v1, rfl, h1⟩ := ha.c1
  exact sd_ret (ed_fdiv (ed_ix (ed_var rfl h1) ed_int rfl) ed_int ⟨by decide, by decide⟩) hq

inductive R_is_cell : List PyData → PyData → Prop
  | mk (s : Sky) (c r : Int) : R_is_cell [eSky s, eCell c r] (.bool (inCell s c r))
abbrev sp_is_cell (K : PySem.W.Frag) : Sp := spP K R_is_cell
abbrev Gd_is_cell (P : Program) (w : World) (K : PySem.W.Frag) (mg : Str → Option Value) (base : Heap) : Prop := Good P w K mg base 3 "is_cell" ["sky", "thing"] (sp_is_cell K)
theorem ok_is_cell {P : Program} {w : World} {K : PySem.W.Frag} {mg : Str → Option Value} {base : Heap} (T : Txt K mg) (G_is_row : Gd_is_row P w K mg base) (G_is_among : Gd_is_among P w K mg base) (G_half_of : Gd_half_of P w K mg base) : Gd_is_cell P w K mg base := by
  refine Good.of T.f_is_cell sc_is_cell (fun _ _ _ _ _ _ us hl => match us, hl with | [_, _], _ => rfl) (spP_len fun ds d hR => by cases hR <;> rfl) fun cdv A outer s H vs Q E hr h => ?_
  refine ⟨_, (pss_one (ps_ret (pe_and (pe_g G_is_row (hr.mono (by omega)) (pa_cons (pv 1) (pa_cons pe_int (pa_cons pe_int pa_nil)))) (pe_and (pe_g G_is_among (hr.mono (by omega)) (pa_cons (pe_ix (show IxR _ (rIxT K) from ix_tup) (pv 1) pe_int (fun _ _ => rfl)) (pa_cons pe_int (pa_cons (pe_op op_sub (pe_g G_half_of (hr.mono (by omega)) (pa_cons (pv 0) pa_nil)) pe_int) pa_nil)))) (pe_one (pe_g G_is_among (hr.mono (by omega)) (pa_cons (pe_ix (show IxR _ (rIxT K) from ix_tup) (pv 1) pe_int (fun _ _ => rfl)) (pa_cons pe_int (pa_cons (pe_op op_sub (pe_ix (show IxR _ (rIxT K) from ix_tup) (pv 0) pe_int (fun _ _ => rfl)) pe_int) pa_nil))))))))), ?_⟩
  obtain ⟨ds, d, ha, hR, hq⟩ := h
  cases hR with
  | mk s c r =>
  obtain ⟨v1, v2, rfl, h1, h2⟩ := ha.c2
  exact sd_ret (ed_andB (a := true) (b := inCell s c r) (ed_call (ea_cons (ed_var rfl h2) (ea_cons ed_int (ea_cons ed_int ea_nil))) (isRow ⟨Int.le_refl 2, Int.le_refl 2⟩)) fun _ => ed_andB (ed_call (ea_cons (ed_ix (ed_var rfl h2) ed_int rfl) (ea_cons ed_int (ea_cons (ed_sub (ed_call (ea_cons (ed_var rfl h1) ea_nil) (.mk s)) ed_int) ea_nil))) (.mk _ _ _)) fun _ => ed_call (ea_cons (ed_ix (ed_var rfl h2) ed_int rfl) (ea_cons ed_int (ea_cons (ed_sub (ed_ix (ed_var rfl h1) ed_int rfl) ed_int) ea_nil))) (.mk _ _ _)) hq

inductive R_up_by : List PyData → PyData → Prop
  | mk (s : Sky) (k : Nat) (l : Light) (e n t : Int) : s.ok → s.lights[k]? = some l → R_up_by [eSky s, .int (k : Int), .int e, .int n, .int t] (eCellO (upBy s l e n t))
abbrev sp_up_by (K : PySem.W.Frag) : Sp := spP K R_up_by
abbrev Gd_up_by (P : Program) (w : World) (K : PySem.W.Frag) (mg : Str → Option Value) (base : Heap) : Prop := Good P w K mg base 4 "up_by" ["sky", "light", "east", "north", "moment"] (sp_up_by K)
theorem ok_up_by {P : Program} {w : World} {K : PySem.W.Frag} {mg : Str → Option Value} {base : Heap} (T : Txt K mg) (G_stands_by : Gd_stands_by P w K mg base) (G_is_cell : Gd_is_cell P w K mg base) : Gd_up_by P w K mg base := by
  refine Good.of T.f_up_by sc_up_by (fun _ _ _ _ _ _ us hl => match us, hl with | [_, _, _, _, _], _ => rfl) (spP_len fun ds d hR => by cases hR <;> rfl) fun cdv A outer s H vs Q E hr h => ?_
  refine ⟨_, (pss_cons (ps_asg (pe_g G_stands_by (hr.mono (by omega)) (pa_cons (pv 0) (pa_cons (pv 1) (pa_cons (pv 4) pa_nil)))) (show PG _ _ (gTup K 2 (gCons (gName 5) (gCons (gName 6) gNil))) from pg_tup rfl (pgs_cons (pg_name (i := 5) sc_up_by.nd rfl (.inl rfl)) (pgs_cons (pg_name (i := 6) sc_up_by.nd rfl (.inl rfl)) pgs_nil))))
    (pss_cons (ps_set (i := 7) sc_up_by.nd rfl (.inl rfl) (pe_tup (pa_cons (pe_op op_mod (pe_op op_add (pv 5) (pv 2)) (pe_ix (show IxR _ (rIxT K) from ix_tup) (pv 0) pe_int (fun _ _ => rfl))) (pa_cons (pe_op op_add (pv 6) (pv 3)) pa_nil))))
    (pss_one (ps_ret (pe_ifExp (pt_val (pe_g G_is_cell (hr.mono (by omega)) (pa_cons (pv 0) (pa_cons (pv 7) pa_nil)))) (pv 7) pe_non))))), ?_⟩
  obtain ⟨ds, d, ha, hR, hq⟩ := h
  cases hR with
  | mk s k l e n t hs hk =>
  obtain ⟨v1, v2, v3, v4, v5, rfl, h1, h2, h3, h4, h5⟩ := ha.c5
  refine (sq_un2 (ed_call (ea_cons (ed_var rfl h1) (ea_cons (ed_var rfl h2) (ea_cons (ed_var rfl h5) ea_nil))) (.mk s k l t hs hk)) fun x1 x2 H1 e1 k1 k2 => ?_)
  have h1 := h1.ex e1
  have h3 := h3.ex e1
  have h4 := h4.ex e1
  refine (sq_asg (d := eCell (((stands s l t).1 + e) % s.wide) ((stands s l t).2 + n)) (ed_tup (ea_cons (ed_mod (ed_add (ed_var rfl k1) (ed_var rfl h3)) (ed_ix (ed_var rfl h1) ed_int rfl) (by have := hs.w1; omega)) (ea_cons (ed_add (ed_var rfl k2) (ed_var rfl h4)) ea_nil))) fun x H2 e2 kx => ?_)
  have h1 := h1.ex e2
  refine sd_ret (ed_if (b := inCell s (((stands s l t).1 + e) % s.wide) ((stands s l t).2 + n)) (eb_val (ed_call (ea_cons (ed_var rfl h1) (ea_cons (ed_var rfl kx) ea_nil)) (.mk _ _ _))) (fun c => ?_) fun c => ?_) fun v H3 e3 => hq v H3 ((e1.trans e2).trans e3)
  · unfold upBy
    rw [c]
    exact ed_var rfl kx
  · unfold upBy
    rw [c]
    exact ed_non
end Dome
/-! the round, lamps -/
namespace Dome
open PySem PySem.Spec PyProof.Rows L2 Evl

theorem emod_dvd_zero {a w : Int} (n : Int) (h : a = w * n) : a % w = 0 := by rw [h]; exact Int.mul_emod_right w n
theorem back_end {s : Sky} (hs : s.ok) : allBack s (12 * s.wide.toNat) = true := by
  unfold allBack
  refine List.all_eq_true.mpr fun l hl => ?_
  have ho := hs.ls l hl
  have w1 := hs.w1
  have h5 := ho.2.2.2.2.1
  have h6 := ho.2.2.2.2.2.1
  have ew : ((12 * s.wide.toNat : Nat) : Int) = 12 * s.wide := by omega
  unfold backB
  rw [ew]
  have e1 : (l.spd * (12 * s.wide) % s.wide == 0) = true := by
    rw [emod_dvd_zero (l.spd * 12) (show l.spd * (12 * s.wide) = s.wide * (l.spd * 12) by rw [← Int.mul_assoc, Int.mul_comm])]
    rfl
  rw [e1, Bool.true_and]
  refine List.all_eq_true.mpr fun i hi => ?_
  have hi := List.mem_range.mp hi
  have e2 : (((i : Nat) : Int) + 12 * s.wide) % (l.rows.length : Int) = (i : Int) := by
    have : l.rows.length = 1 ∨ l.rows.length = 2 ∨ l.rows.length = 3 ∨ l.rows.length = 4 := by omega
    rcases this with e | e | e | e <;> rw [e] at hi ⊢ <;> omega
  rw [e2]
  simp
theorem leastFrom_ge (p : Nat → Bool) : ∀ n k, k ≤ leastFrom p n k
  | 0, k => Nat.le_refl k
  | n + 1, k => by
    unfold leastFrom
    split
    · exact Nat.le_refl k
    · exact Nat.le_of_succ_le (leastFrom_ge p n (k + 1))
theorem leastFrom_le (p : Nat → Bool) : ∀ n k, leastFrom p n k ≤ k + n
  | 0, k => Nat.le_refl k
  | n + 1, k => by
    unfold leastFrom
    split
    · omega
    · have := leastFrom_le p n (k + 1)
      omega
theorem round_pos (s : Sky) : 1 ≤ roundOf s := leastFrom_ge _ _ _
theorem round_le (s : Sky) : roundOf s ≤ 144 := leastFrom_le _ _ _
theorem leastFrom_yes {p : Nat → Bool} {n k : Nat} (h : p k = true) : leastFrom p n k = k := by
  cases n with
  | zero => rfl
  | succ n => unfold leastFrom; rw [if_pos h]
theorem leastFrom_no {p : Nat → Bool} {n k : Nat} (h : p k = false) : leastFrom p (n + 1) k = leastFrom p n (k + 1) := by
  rw [leastFrom, if_neg (by rw [h]; exact Bool.false_ne_true)]

inductive R_round_of : List PyData → PyData → Prop
  | mk (s : Sky) : s.ok → R_round_of [eSky s] (.int (roundOf s : Int))
abbrev sp_round_of (K : PySem.W.Frag) : Sp := spP K R_round_of
abbrev Gd_round_of (P : Program) (w : World) (K : PySem.W.Frag) (mg : Str → Option Value) (base : Heap) : Prop := Good P w K mg base 6 "round_of" ["sky"] (sp_round_of K)
theorem ok_round_of {P : Program} {w : World} {K : PySem.W.Frag} {mg : Str → Option Value} {base : Heap} (T : Txt K mg) (G_need_sky : Gd_need_sky P w K mg base) (G_is_back : Gd_is_back P w K mg base) : Gd_round_of P w K mg base := by
  refine Good.of T.f_round_of sc_round_of (fun _ _ _ _ _ _ us hl => match us, hl with | [_], _ => rfl) (spP_len fun ds d hR => by cases hR <;> rfl) fun cdv A outer s H vs Q E hr h => ?_
  refine ⟨_, (pss_cons (ps_expr (pe_g G_need_sky (hr.mono (by omega)) (pa_cons (pv 0) pa_nil)))
    (pss_cons (ps_asg (pv 0) (show PG _ _ (gTup K 3 (gCons (gName 1) (gCons (gName 2) (gCons (gName 3) gNil)))) from pg_tup rfl (pgs_cons (pg_name (i := 1) sc_round_of.nd rfl (.inr rfl)) (pgs_cons (pg_name (i := 2) sc_round_of.nd rfl (.inl rfl)) (pgs_cons (pg_name (i := 3) sc_round_of.nd rfl (.inl rfl)) pgs_nil)))))
    (pss_cons (ps_set (i := 4) sc_round_of.nd rfl (.inr rfl) pe_int)
    (pss_cons (ps_while PassesOwn.never (pt_not (pt_val (pe_callB (cr_all rfl) rfl (T.b_all) (by decide +kernel) (pa_cons (pe_lc rfl sc_round_of.nd (pi_tup (pv 3)) (blkOk_by (own := [("light", 5)]) (N := N_round_of) (sc := defScope s_round_of) (by decide +kernel)) (fun _ _ _ _ _ => (pg_name (i := 5) sc_round_of.nd rfl (.inl rfl))) (fun _ _ _ _ _ => pts_nil) (fun _ _ _ _ _ => (pe_g G_is_back (hr.mono (by omega)) (pa_cons (pv 5) (pa_cons (pv 1) (pa_cons (pv 4) pa_nil)))))) pa_nil)))) (pss_one (ps_aug (i := 4) sc_round_of.nd rfl (.inr rfl) pe_int ip_add)))
    (pss_one (ps_ret (pv 4))))))), ?_⟩
  obtain ⟨ds, d, ha, hR, hq⟩ := h
  cases hR with
  | mk s hs =>
  obtain ⟨v1, rfl, h1⟩ := ha.c1
  refine (sq_drop (ed_call (ea_cons (ed_var rfl h1) ea_nil) (.mk s hs)) fun H1 e1 => ?_)
  have h1 := h1.ex e1
  refine (sq_un3 (ed_var rfl h1) fun x1 x2 x3 H2 e2 k1 k2 k3 => ?_)
  refine (sq_asg (K := K) ed_int fun x4 H3 e3 k4 => ?_)
  have k1 := k1.ex e3
  have k3 := k3.ex e3
  cases k4
  have w1 := hs.w1
  have w2 := hs.w2
  refine (sq_while (fun m σ' H' => ∃ k : Nat, m = 145 - k ∧ 1 ≤ k ∧ k ≤ 12 * s.wide.toNat ∧ leastFrom (allBack s) (144 - k) k = roundOf s ∧ σ' = (((((L2.start N_round_of [v1]).set 1 (some x1)).set 2 (some x2)).set 3 (some x3)).set 4 (some (.int (k : Int)))) ∧ Ex H3 H') 144 ⟨1, rfl, by omega, by omega, rfl, rfl, Ex.refl _⟩ fun m σ' H' hw => ?_)
  obtain ⟨k, rfl, hk1, hk2, hk3, rfl, eH⟩ := hw
  refine ⟨!allBack s k, eb_not (eb_val (ed_allF (el_mapT (fun l => .bool (backB s l k)) (ed_var rfl (k3.ex eH)) (fun _ => rfl) (fun l hl v H4 t kl => ed_call (ea_cons (ed_var rfl kl) (ea_cons (ed_var rfl ((k1.ex eH).at t)) (ea_cons (ed_var rfl (.int _)) ea_nil))) (.mk s l k hs hl)) (by have := hs.n2; omega)))), fun c H4 e4 => ?_, fun c H4 e4 => ?_⟩
  · have c2 : allBack s k = false := by simpa using c
    have hlt : k < 12 * s.wide.toNat := by
      rcases Nat.lt_or_ge k (12 * s.wide.toNat) with h | h
      · exact h
      · have : k = 12 * s.wide.toNat := by omega
        rw [this, back_end hs] at c2
        cases c2
    refine ⟨fun σ2 H2 => σ2 = (((((L2.start N_round_of [v1]).set 1 (some x1)).set 2 (some x2)).set 3 (some x3)).set 4 (some (.int ((k + 1 : Nat) : Int)))) ∧ Ex H3 H2, fun σ2 H2 hn => ⟨145 - (k + 1), by omega, k + 1, rfl, by omega, by omega, ?_, hn.1, hn.2⟩, sd_aug (K := K) (a := (k : Int)) rfl ed_int fun H5 e5 => ⟨rfl, (eH.trans e4).trans e5⟩⟩
    rw [← hk3, show 144 - k = (144 - (k + 1)) + 1 by omega, leastFrom_no c2]
  · have c2 : allBack s k = true := by simpa using c
    rw [leastFrom_yes c2] at hk3
    exact sd_ret (d := .int (k : Int)) (ed_var rfl (.int _)) fun v H5 e5 kv => hq v H5 (((((e1.trans e2).trans e3).trans eH).trans e4).trans e5) (by rw [← hk3]; exact kv)
end Dome
/-! lamps, shows, states -/
namespace Dome
open PySem PySem.Spec PyProof.Rows L2 Evl

inductive R_is_lamp : List PyData → PyData → Prop
  | mk (s : Sky) (l : Lamp) : l.ok s → R_is_lamp [eSky s, eLamp l] (.bool true)
abbrev sp_is_lamp (K : PySem.W.Frag) : Sp := spP K R_is_lamp
abbrev Gd_is_lamp (P : Program) (w : World) (K : PySem.W.Frag) (mg : Str → Option Value) (base : Heap) : Prop := Good P w K mg base 3 "is_lamp" ["sky", "thing"] (sp_is_lamp K)
theorem ok_is_lamp {P : Program} {w : World} {K : PySem.W.Frag} {mg : Str → Option Value} {base : Heap} (T : Txt K mg) (G_is_row : Gd_is_row P w K mg base) (G_is_among : Gd_is_among P w K mg base) (G_half_of : Gd_half_of P w K mg base) : Gd_is_lamp P w K mg base := by
  refine Good.of T.f_is_lamp sc_is_lamp (fun _ _ _ _ _ _ us hl => match us, hl with | [_, _], _ => rfl) (spP_len fun ds d hR => by cases hR <;> rfl) fun cdv A outer s H vs Q E hr h => ?_
  refine ⟨_, (pss_cons (ps_if (PW.pt (pw_or (pt_not (pt_val (pe_g G_is_row (hr.mono (by omega)) (pa_cons (pv 1) (pa_cons pe_int (pa_cons pe_int pa_nil)))))) (pw_or1 (pt_not (pt_val (pe_callB (cr_all rfl) rfl (T.b_all) (by decide +kernel) (pa_cons (pe_lc rfl sc_is_lamp.nd (pi_tup (pe_slice sl_tupA (pv 1) po_none (po_some pe_int))) (blkOk_by (own := [("one", 2)]) (N := N_is_lamp) (sc := defScope s_is_lamp) (by decide +kernel)) (fun _ _ _ _ _ => (pg_name (i := 2) sc_is_lamp.nd rfl (.inl rfl))) (fun _ _ _ _ _ => pts_nil) (fun _ _ _ _ _ => (pe_g G_is_among (hr.mono (by omega)) (pa_cons (pv 2) (pa_cons pe_int (pa_cons (pe_op op_sub (pe_g G_half_of (hr.mono (by omega)) (pa_cons (pv 0) pa_nil)) pe_int) pa_nil)))))) pa_nil))))))) (pss_one (ps_ret pe_bl)) pss_nil)
    (pss_cons (ps_if (pt_not (pt_val (pe_callB (cr_all rfl) rfl (T.b_all) (by decide +kernel) (pa_cons (pe_lc rfl sc_is_lamp.nd (pi_tup (pe_slice sl_tupA (pv 1) (po_some pe_int) po_none)) (blkOk_by (own := [("one", 2)]) (N := N_is_lamp) (sc := defScope s_is_lamp) (by decide +kernel)) (fun _ _ _ _ _ => (pg_name (i := 2) sc_is_lamp.nd rfl (.inl rfl))) (fun _ _ _ _ _ => pts_nil) (fun _ _ _ _ _ => (pe_g G_is_among (hr.mono (by omega)) (pa_cons (pv 2) (pa_cons pe_int (pa_cons (pe_op op_sub (pe_ix (show IxR _ (rIxT K) from ix_tup) (pv 0) pe_int (fun _ _ => rfl)) pe_int) pa_nil)))))) pa_nil)))) (pss_one (ps_ret pe_bl)) pss_nil)
    (pss_one (ps_ret (pe_and (pe_cmpR op_le (pe_ix (show IxR _ (rIxT K) from ix_tup) (pv 1) pe_int (fun _ _ => rfl)) (pe_ix (show IxR _ (rIxT K) from ix_tup) (pv 1) pe_int (fun _ _ => rfl)) (nomark _)) (pe_one (pe_cmpR op_le (pe_ix (show IxR _ (rIxT K) from ix_tup) (pv 1) pe_int (fun _ _ => rfl)) (pe_ix (show IxR _ (rIxT K) from ix_tup) (pv 1) pe_int (fun _ _ => rfl)) (nomark _)))))))), ?_⟩
  obtain ⟨ds, d, ha, hR, hq⟩ := h
  cases hR with
  | mk s l hl =>
  obtain ⟨v1, v2, rfl, h1, h2⟩ := ha.c2
  obtain ⟨l1, l2, l3, l4, l5, l6⟩ := hl
  refine (sq_no (eb_or (a := false) (b := false) (eb_not (a := true) (eb_val (ed_call (ea_cons (ed_var rfl h2) (ea_cons ed_int (ea_cons ed_int ea_nil))) (isRow ⟨Int.le_refl 4, Int.le_refl 4⟩)))) fun _ => eb_not (a := true) (eb_val (ed_allT (xs := [l.first, l.last]) (el_mapT (enc := .int) (fun _ => .bool true) (ed_is (ed_sl (ed_var rfl h2) eo_none (eo_some (K := K) ed_int)) rfl) (fun _ => rfl) (fun k hk v H1 t kv => ed_call (ea_cons (ed_var rfl kv) (ea_cons ed_int (ea_cons (ed_sub (ed_call (ea_cons (ed_var rfl (h1.at t)) ea_nil) (.mk s)) ed_int) ea_nil))) (among ?_)) (Nat.le_of_ble_eq_true rfl))))) fun H1 e1 => ?_)
  · rcases List.mem_cons.mp hk with rfl | hk
    · exact ⟨l1, by omega⟩
    · rcases List.mem_cons.mp hk with rfl | hk
      · exact ⟨by omega, l3⟩
      · nomatch hk
  have h1 := h1.ex e1
  have h2 := h2.ex e1
  refine (sq_no (eb_not (a := true) (eb_val (ed_allT (xs := [l.low, l.top]) (el_mapT (enc := .int) (fun _ => .bool true) (ed_is (ed_sl (ed_var rfl h2) (eo_some (K := K) ed_int) eo_none) rfl) (fun _ => rfl) (fun k hk v H1 t kv => ed_call (ea_cons (ed_var rfl kv) (ea_cons ed_int (ea_cons (ed_sub (ed_ix (ed_var rfl (h1.at t)) ed_int rfl) ed_int) ea_nil))) (among ?_)) (Nat.le_of_ble_eq_true rfl))))) fun H2 e2 => ?_)
  · rcases List.mem_cons.mp hk with rfl | hk
    · exact ⟨l4, by omega⟩
    · rcases List.mem_cons.mp hk with rfl | hk
      · exact ⟨by omega, l6⟩
      · nomatch hk
  have h2 := h2.ex e2
  refine sd_ret (ed_is (x := .bool true) (ed_andB (ed_le (ed_ix (ed_var rfl h2) ed_int rfl) (ed_ix (ed_var rfl h2) ed_int rfl)) fun _ => ed_le (ed_ix (ed_var rfl h2) ed_int rfl) (ed_ix (ed_var rfl h2) ed_int rfl)) ?_) fun v H3 e3 => hq v H3 ((e1.trans e2).trans e3)
  rw [decide_eq_true l2, decide_eq_true l5]
  rfl

inductive R_are_lamps : List PyData → PyData → Prop
  | mk (s : Sky) (ls : List Lamp) : 1 ≤ ls.length → ls.length ≤ 6 → (∀ l ∈ ls, l.ok s) → R_are_lamps [eSky s, .tuple (ls.map eLamp)] (.bool true)
abbrev sp_are_lamps (K : PySem.W.Frag) : Sp := spP K R_are_lamps
abbrev Gd_are_lamps (P : Program) (w : World) (K : PySem.W.Frag) (mg : Str → Option Value) (base : Heap) : Prop := Good P w K mg base 4 "are_lamps" ["sky", "thing"] (sp_are_lamps K)
theorem ok_are_lamps {P : Program} {w : World} {K : PySem.W.Frag} {mg : Str → Option Value} {base : Heap} (T : Txt K mg) (G_is_row : Gd_is_row P w K mg base) (G_is_lamp : Gd_is_lamp P w K mg base) : Gd_are_lamps P w K mg base := by
  refine Good.of T.f_are_lamps sc_are_lamps (fun _ _ _ _ _ _ us hl => match us, hl with | [_, _], _ => rfl) (spP_len fun ds d hR => by cases hR <;> rfl) fun cdv A outer s H vs Q E hr h => ?_
  refine ⟨_, (pss_one (ps_ret (pe_and (pe_g G_is_row (hr.mono (by omega)) (pa_cons (pv 1) (pa_cons pe_int (pa_cons (pe_gi (T.i_MOST_LAMPS)) pa_nil)))) (pe_one (pe_callB (cr_all rfl) rfl (T.b_all) (by decide +kernel) (pa_cons (pe_lc rfl sc_are_lamps.nd (pi_tup (pv 1)) (blkOk_by (own := [("one", 2)]) (N := N_are_lamps) (sc := defScope s_are_lamps) (by decide +kernel)) (fun _ _ _ _ _ => (pg_name (i := 2) sc_are_lamps.nd rfl (.inl rfl))) (fun _ _ _ _ _ => pts_nil) (fun _ _ _ _ _ => (pe_g G_is_lamp (hr.mono (by omega)) (pa_cons (pv 0) (pa_cons (pv 2) pa_nil))))) pa_nil)))))), ?_⟩
  obtain ⟨ds, d, ha, hR, hq⟩ := h
  cases hR with
  | mk s ls n1 n2 hl =>
  obtain ⟨v1, v2, rfl, h1, h2⟩ := ha.c2
  exact sd_ret (ed_andB (a := true) (b := true) (ed_call (ea_cons (ed_var rfl h2) (ea_cons ed_int (ea_cons ed_int ea_nil))) (isRow ⟨by rw [List.length_map]; omega, by rw [List.length_map]; omega⟩)) fun _ => ed_allT (el_mapT (fun _ => .bool true) (ed_var rfl h2) (fun _ => rfl) (fun l hm v H1 t kv => ed_call (ea_cons (ed_var rfl (h1.at t)) (ea_cons (ed_var rfl kv) ea_nil)) (.mk s l (hl l hm))) (by omega))) hq

def cellsOf (s : Sky) : List (Int × Int) := (List.range (s.wide / 2).toNat).flatMap fun i => (List.range s.high.toNat).map fun j => (((i : Nat) : Int), ((j : Nat) : Int))
def eCellP (c : Int × Int) : PyData := eCell c.1 c.2
inductive R_cells_of : List PyData → List PyData → Prop
  | mk (s : Sky) : s.ok → R_cells_of [eSky s] ((cellsOf s).map eCellP)
abbrev sp_cells_of (K : PySem.W.Frag) : Sp := spL K R_cells_of
theorem len_cells_of {K : PySem.W.Frag} : ∀ vs H Q E, sp_cells_of K vs H Q E → vs.length = ["sky"].length := spL_len fun ds d hR => by cases hR <;> rfl
abbrev Gd_cells_of (P : Program) (w : World) (K : PySem.W.Frag) (mg : Str → Option Value) (base : Heap) : Prop := Good P w K mg base 2 "cells_of" ["sky"] (sp_cells_of K)
theorem ok_cells_of {P : Program} {w : World} {K : PySem.W.Frag} {mg : Str → Option Value} {base : Heap} (T : Txt K mg) (G_half_of : Gd_half_of P w K mg base) : Gd_cells_of P w K mg base := by
  refine Good.of T.f_cells_of sc_cells_of (fun _ _ _ _ _ _ us hl => match us, hl with | [_], _ => rfl) len_cells_of fun cdv A outer s H vs Q E hr h => ?_
  refine ⟨_, (pss_one (ps_ret (pe_lc2 (vs1 := [2]) rfl sc_cells_of.nd (pi_range1 rfl (T.b_range) (pa_cons (pe_g G_half_of (hr.mono (by omega)) (pa_cons (pv 0) pa_nil)) pa_nil)) (blkOk_by (own := [("column", 1), ("row", 2)]) (N := N_cells_of) (sc := defScope s_cells_of) (by decide +kernel)) (by decide) (fun _ _ _ _ _ => (pg_name (i := 1) sc_cells_of.nd rfl (.inl rfl))) (fun _ _ _ _ _ => pts_nil) (fun _ _ _ _ _ => (pi_range1 rfl (T.b_range) (pa_cons (pe_ix (show IxR _ (rIxT K) from ix_tup) (pv 0) pe_int (fun _ _ => rfl)) pa_nil))) (fun _ _ _ _ _ => (pg_name (i := 2) sc_cells_of.nd rfl (.inl rfl))) (fun _ _ _ _ _ => pts_nil) (fun _ _ _ _ _ => (pe_tup (pa_cons (pv 1) (pa_cons (pv 2) pa_nil))))))), ?_⟩
  obtain ⟨ds, d, ha, hR, hq⟩ := h
  cases hR with
  | mk s hs =>
  obtain ⟨v1, rfl, h1⟩ := ha.c1
  have w1 := hs.w1
  have w2 := hs.w2
  have hh1 := hs.h1
  have hh2 := hs.h2
  have en : s.wide / 2 = (((s.wide / 2).toNat : Nat) : Int) := by omega
  have em : s.high = ((s.high.toNat : Nat) : Int) := by omega
  refine sd_retL (el_is (el_lc2R (n := (s.wide / 2).toNat) (m := s.high.toNat) (fun i j => eCell (i : Int) (j : Int)) (ea_cons (ed_is (ed_call (ea_cons (ed_var rfl h1) ea_nil) (.mk s)) ?_) ea_nil) (by omega) (by omega) (fun _ => rfl) (fun _ _ => rfl) (fun i hi H1 t => ea_cons (ed_is (ed_ix (ed_var rfl (h1.at t)) ed_int rfl) ?_) ea_nil) fun i l hi hl H1 t => ed_tup (ea_cons (ed_var rfl (.int _)) (ea_cons (ed_var rfl (.int _)) ea_nil))) ?_) hq
  · rw [← en]
  · rw [← em]
  · unfold cellsOf
    rw [List.map_flatMap]
    simp only [List.map_map]
    rfl

inductive R_covers : List PyData → PyData → Prop
  | mk (l : Lamp) (c r : Int) : R_covers [eLamp l, eCell c r] (.bool (covers l c r))
abbrev sp_covers (K : PySem.W.Frag) : Sp := spP K R_covers
abbrev Gd_covers (P : Program) (w : World) (K : PySem.W.Frag) (mg : Str → Option Value) (base : Heap) : Prop := Good P w K mg base 1 "covers" ["lamp", "cell"] (sp_covers K)
theorem ok_covers {P : Program} {w : World} {K : PySem.W.Frag} {mg : Str → Option Value} {base : Heap} (T : Txt K mg) : Gd_covers P w K mg base := by
  refine Good.of T.f_covers sc_covers (fun _ _ _ _ _ _ us hl => match us, hl with | [_, _], _ => rfl) (spP_len fun ds d hR => by cases hR <;> rfl) fun cdv A outer s H vs Q E hr h => ?_
  refine ⟨_, (pss_cons (ps_asg (pv 0) (show PG _ _ (gTup K 4 (gCons (gName 2) (gCons (gName 3) (gCons (gName 4) (gCons (gName 5) gNil))))) from pg_tup rfl (pgs_cons (pg_name (i := 2) sc_covers.nd rfl (.inl rfl)) (pgs_cons (pg_name (i := 3) sc_covers.nd rfl (.inl rfl)) (pgs_cons (pg_name (i := 4) sc_covers.nd rfl (.inl rfl)) (pgs_cons (pg_name (i := 5) sc_covers.nd rfl (.inl rfl)) pgs_nil))))))
    (pss_one (ps_ret (pe_and (pe_chain op_le op_le (pv 2) (pe_ix (show IxR _ (rIxT K) from ix_tup) (pv 1) pe_int (fun _ _ => rfl)) (pv 3)) (pe_one (pe_chain op_le op_le (pv 4) (pe_ix (show IxR _ (rIxT K) from ix_tup) (pv 1) pe_int (fun _ _ => rfl)) (pv 5))))))), ?_⟩
  obtain ⟨ds, d, ha, hR, hq⟩ := h
  cases hR with
  | mk l c r =>
  obtain ⟨v1, v2, rfl, h1, h2⟩ := ha.c2
  refine sq_un4 (ed_var rfl h1) fun x1 x2 x3 x4 H1 e1 k1 k2 k3 k4 => ?_
  have h2 := h2.ex e1
  exact sd_ret (ed_andB (ed_chainLe (ed_var rfl k1) (ed_ix (ed_var rfl h2) ed_int rfl) (ed_var rfl k2)) fun _ => ed_chainLe (ed_var rfl k3) (ed_ix (ed_var rfl h2) ed_int rfl) (ed_var rfl k4)) fun v H3 e3 => hq v H3 (e1.trans e3)

theorem gvL_cov (c r : Int) : ∀ (ls : List Lamp) (k : Nat), gvL (fun _ l => covers l c r) (fun i _ => .int (i : Int)) k ls = (covFrom c r k ls).map .int
  | [], _ => rfl
  | l :: ls, k => by
    unfold gvL covFrom
    rw [gvL_cov c r ls (k + 1)]
    by_cases h : covers l c r = true
    · rw [if_pos h, if_pos h]; rfl
    · rw [if_neg h, if_neg h]
theorem cov_mem {c r : Int} : ∀ {ls : List Lamp} {n : Nat} {k : Int}, k ∈ covFrom c r n ls → (n : Int) ≤ k ∧ k < (n : Int) + (ls.length : Int)
  | [], _, _, h => nomatch h
  | l :: ls, n, k, h => by
    unfold covFrom at h
    rw [List.length_cons]
    split at h
    · rcases List.mem_cons.mp h with rfl | h
      · omega
      · have := cov_mem h
        omega
    · have := cov_mem h
      omega
theorem cov_len {c r : Int} : ∀ {ls : List Lamp} {n : Nat}, (covFrom c r n ls).length ≤ ls.length
  | [], _ => Nat.le_refl _
  | l :: ls, n => by
    have := cov_len (c := c) (r := r) (ls := ls) (n := n + 1)
    unfold covFrom
    rw [List.length_cons]
    split
    · rw [List.length_cons]; omega
    · omega
inductive R_covering_by : List PyData → PyData → Prop
  | mk (ls : List Lamp) (c r : Int) : ls.length ≤ 6 → R_covering_by [.tuple (ls.map eLamp), eCell c r] (eL (covering ls c r))
abbrev sp_covering_by (K : PySem.W.Frag) : Sp := spP K R_covering_by
abbrev Gd_covering_by (P : Program) (w : World) (K : PySem.W.Frag) (mg : Str → Option Value) (base : Heap) : Prop := Good P w K mg base 2 "covering_by" ["lamps", "cell"] (sp_covering_by K)
theorem ok_covering_by {P : Program} {w : World} {K : PySem.W.Frag} {mg : Str → Option Value} {base : Heap} (T : Txt K mg) (G_covers : Gd_covers P w K mg base) : Gd_covering_by P w K mg base := by
  refine Good.of T.f_covering_by sc_covering_by (fun _ _ _ _ _ _ us hl => match us, hl with | [_, _], _ => rfl) (spP_len fun ds d hR => by cases hR <;> rfl) fun cdv A outer s H vs Q E hr h => ?_
  refine ⟨_, (pss_one (ps_ret (pe_callTy call_tuple_of rfl (T.b_tuple) (by decide +kernel) (pa_cons (pe_lc rfl sc_covering_by.nd (pi_enumT rfl (T.b_enumerate) (pa_cons (pv 0) pa_nil)) (blkOk_by (own := [("number", 2), ("lamp", 3)]) (N := N_covering_by) (sc := defScope s_covering_by) (by decide +kernel)) (fun _ _ _ _ _ => (show PG _ _ (gTup K 2 (gCons (gName 2) (gCons (gName 3) gNil))) from pg_tup rfl (pgs_cons (pg_name (i := 2) sc_covering_by.nd rfl (.inl rfl)) (pgs_cons (pg_name (i := 3) sc_covering_by.nd rfl (.inl rfl)) pgs_nil)))) (fun _ _ _ _ _ => pts_one (pt_val (pe_g G_covers (hr.mono (by omega)) (pa_cons (pv 3) (pa_cons (pv 1) pa_nil))))) (fun _ _ _ _ _ => (pv 2))) pa_nil)))), ?_⟩
  obtain ⟨ds, d, ha, hR, hq⟩ := h
  cases hR with
  | mk ls c r hl =>
  obtain ⟨v1, v2, rfl, h1, h2⟩ := ha.c2
  exact sd_ret (ed_tuple (el_is (el_mapE (xs := ls) (fun _ l => covers l c r) (fun i _ => .int (i : Int)) (ea_cons (ed_var rfl h1) ea_nil) (by omega) (fun _ _ => rfl) (fun i l hi u H1 t ku => eb_val (ed_call (ea_cons (ed_var rfl ku) (ea_cons (ed_var rfl (h2.at t)) ea_nil)) (.mk l c r))) (fun i l hi _ u H1 t ku => ed_var rfl (.int _))) (gvL_cov c r ls 0))) hq

/-! ### words -/
theorem maxL_mem : ∀ {ns : List Int}, ns ≠ [] → maxL ns ∈ ns
  | [], h => absurd rfl h
  | [a], _ => List.mem_cons_self
  | a :: b :: r, _ => by
    have := maxL_mem (ns := b :: r) (by simp)
    unfold maxL
    rcases Int.le_total a (maxL (b :: r)) with h | h
    · rw [Int.max_eq_right h]; exact List.mem_cons_of_mem _ this
    · rw [Int.max_eq_left h]; exact List.mem_cons_self
theorem maxL_le : ∀ {ns : List Int} {y : Int}, y ∈ ns → y ≤ maxL ns
  | [], _, h => nomatch h
  | [a], y, h => by
    rcases List.mem_cons.mp h with rfl | h
    · exact Int.le_refl _
    · nomatch h
  | a :: b :: r, y, h => by
    unfold maxL
    rcases List.mem_cons.mp h with rfl | h
    · exact Int.le_max_left _ _
    · exact Int.le_trans (maxL_le h) (Int.le_max_right _ _)
theorem minL_mem : ∀ {ns : List Int}, ns ≠ [] → minL ns ∈ ns
  | [], h => absurd rfl h
  | [a], _ => List.mem_cons_self
  | a :: b :: r, _ => by
    have := minL_mem (ns := b :: r) (by simp)
    unfold minL
    rcases Int.le_total a (minL (b :: r)) with h | h
    · rw [Int.min_eq_left h]; exact List.mem_cons_self
    · rw [Int.min_eq_right h]; exact List.mem_cons_of_mem _ this
theorem minL_le : ∀ {ns : List Int} {y : Int}, y ∈ ns → minL ns ≤ y
  | [], _, h => nomatch h
  | [a], y, h => by
    rcases List.mem_cons.mp h with rfl | h
    · exact Int.le_refl _
    · nomatch h
  | a :: b :: r, y, h => by
    unfold minL
    rcases List.mem_cons.mp h with rfl | h
    · exact Int.min_le_left _ _
    · exact Int.le_trans (Int.min_le_right _ _) (minL_le h)
theorem maxL_uniq {ns : List Int} (k : Int) (h1 : k ∈ ns) (h2 : ∀ y, y ∈ ns → y ≤ k) : k = maxL ns := Int.le_antisymm (maxL_le h1) (h2 _ (maxL_mem (by intro e; rw [e] at h1; nomatch h1)))
theorem minL_uniq {ns : List Int} (k : Int) (h1 : k ∈ ns) (h2 : ∀ y, y ∈ ns → k ≤ y) : k = minL ns := Int.le_antisymm (h2 _ (minL_mem (by intro e; rw [e] at h1; nomatch h1))) (minL_le h1)
structure Show.fit (w : Show) : Prop where
  n2 : w.lamps.length ≤ 6
  no : w.offs.length = w.lamps.length
theorem Show.ok.fit {s : Sky} {w : Show} (h : w.ok s) : w.fit := ⟨h.n2, h.no⟩
inductive R_word_of : List PyData → PyData → Prop
  | mk (w : Show) (c r : Int) : w.fit → R_word_of [eShow w, eCell c r] (eStrO (wordOf w c r))
abbrev sp_word_of (K : PySem.W.Frag) : Sp := spP K R_word_of
abbrev Gd_word_of (P : Program) (w : World) (K : PySem.W.Frag) (mg : Str → Option Value) (base : Heap) : Prop := Good P w K mg base 3 "word_of" ["show", "cell"] (sp_word_of K)
theorem ok_word_of {P : Program} {w : World} {K : PySem.W.Frag} {mg : Str → Option Value} {base : Heap} (T : Txt K mg) (G_covering_by : Gd_covering_by P w K mg base) : Gd_word_of P w K mg base := by
  refine Good.of T.f_word_of sc_word_of (fun _ _ _ _ _ _ us hl => match us, hl with | [_, _], _ => rfl) (spP_len fun ds d hR => by cases hR <;> rfl) fun cdv A outer s H vs Q E hr h => ?_
  refine ⟨_, (pss_cons (ps_asg (pv 0) (show PG _ _ (gTup K 3 (gCons (gName 2) (gCons (gName 3) (gCons (gName 4) gNil)))) from pg_tup rfl (pgs_cons (pg_name (i := 2) sc_word_of.nd rfl (.inl rfl)) (pgs_cons (pg_name (i := 3) sc_word_of.nd rfl (.inr rfl)) (pgs_cons (pg_name (i := 4) sc_word_of.nd rfl (.inl rfl)) pgs_nil)))))
    (pss_cons (ps_setLc (i := 5) rfl sc_word_of.nd rfl rfl (sw_true rfl rfl rfl (by decide +kernel)) (pi_tup (pe_g G_covering_by (hr.mono (by omega)) (pa_cons (pv 2) (pa_cons (pv 1) pa_nil)))) (blkOk_by (own := [("lamp", 6)]) (N := N_word_of) (sc := defScope s_word_of) (by decide +kernel)) (fun _ _ _ _ _ => (pg_name (i := 6) sc_word_of.nd rfl (.inl rfl))) (fun _ _ _ _ _ => pts_nil) (fun _ _ _ _ _ => (pe_ix (show IxR _ (rIxT K) from ix_tup) (pv 3) (pv 6) (fun _ _ => rfl))))
    (pss_cons (ps_if (pt_cmpR (op_eqD hr.units) (pv 5) (pe_lst pa_nil) (nomark _)) (pss_one (ps_ret pe_str)) pss_nil)
    (pss_cons (ps_if (pt_cmpR op_gt (pe_callB (cr_max rfl) rfl (T.b_max) (by decide +kernel) (pa_cons (pe_lc rfl sc_word_of.nd (pi_list (pv 5)) (blkOk_by (own := [("off", 7)]) (N := N_word_of) (sc := defScope s_word_of) (by decide +kernel)) (fun _ _ _ _ _ => (pg_name (i := 7) sc_word_of.nd rfl (.inl rfl))) (fun _ _ _ _ _ => pts_nil) (fun _ _ _ _ _ => (pe_callB call_abs rfl (T.b_abs) (by decide +kernel) (pa_cons (pv 7) pa_nil)))) pa_nil)) (pv 4) (nomark _)) (pss_one (ps_ret pe_str)) pss_nil)
    (pss_one (ps_ret (pe_ifExp (pt_cmpR op_gt (pe_op op_sub (pe_callB (cr_max rfl) rfl (T.b_max) (by decide +kernel) (pa_cons (pv 5) pa_nil)) (pe_callB (cr_min rfl) rfl (T.b_min) (by decide +kernel) (pa_cons (pv 5) pa_nil))) (pv 4) (nomark _)) pe_str pe_non))))))), ?_⟩
  obtain ⟨ds, d, ha, hR, hq⟩ := h
  cases hR with
  | mk w c r hw =>
  obtain ⟨v1, v2, rfl, h1, h2⟩ := ha.c2
  have n2 := hw.n2
  refine sq_un3 (ed_var rfl h1) fun x1 x2 x3 H1 e1 k1 k2 k3 => ?_
  have h2 := h2.ex e1
  have hlen : (ownOffs w c r).length ≤ 6 := by
    unfold ownOffs covering
    rw [List.length_map]
    exact Nat.le_trans cov_len n2
  refine sq_asgL (el_is (el_mapT (xs := covering w.lamps c r) (enc := .int) (fun k => .int (w.offs.getD k.toNat 0)) (ed_call (ea_cons (ed_var rfl k1) (ea_cons (ed_var rfl h2) ea_nil)) (.mk w.lamps c r n2)) (fun _ => rfl) (fun k hk v H2 t kv => ?_) (Nat.le_trans cov_len (by omega))) (show _ = (ownOffs w c r).map PyData.int from ?_)) fun p xs H2 hp e2 hx kx => ?_
  · have m := cov_mem hk
    exact ed_ix (ed_var rfl (k2.at t)) (ed_var rfl kv) (atI_ints (by omega) (by have := hw.no; omega))
  · unfold ownOffs
    rw [List.map_map]
    rfl
  have ex := kx.ints
  subst ex
  have k3 := k3.ex e2
  have ln : Ln (((((L2.start N_word_of [v1, v2]).set 2 (some x1)).set 3 (some x2)).set 4 (some x3)).set 5 (some (.ref p))) H2 5 p (ownOffs w c r) := ⟨rfl, hx⟩
  refine sq_ifX (xb_nil ln) (fun z H3 e3 => sd_ret (K := K) ed_str fun v H4 e4 kv => hq v H4 (((e1.trans e2).trans e3).trans e4) ?_) fun z H3 e3 => ?_
  · unfold wordOf
    rw [if_pos (of_decide_eq_true z)]
    exact kv
  have zn : ownOffs w c r ≠ [] := of_decide_eq_false z
  have ln := ln.ex e3
  have k3 := k3.ex e3
  refine sq_ifX (xb_val (xb_gt (xd_maxAbs (j := 7) ln (by omega) zn (fun _ => rfl) (fun k H4 => ed_abs (ed_var rfl (.int k))) fun k => maxL_uniq k) fun H4 e4 => (ed_var rfl (k3.ex e4)).at1)) (fun z2 H4 e4 => sd_ret (K := K) ed_str fun v H5 e5 kv => hq v H5 ((((e1.trans e2).trans e3).trans e4).trans e5) ?_) fun z2 H4 e4 => ?_
  · unfold wordOf
    rw [if_neg zn, if_pos (of_decide_eq_true z2)]
    exact kv
  have ln := ln.ex e4
  have k3 := k3.ex e4
  refine sd_retX (d := eStrO (wordOf w c r)) (xd_if (xb_val (xb_gt (xd_sub (xd_max ln zn fun k => maxL_uniq k) fun H5 e5 => xd_min (ln.ex e5) zn fun k => minL_uniq k) fun H5 e5 => (ed_var rfl (k3.ex e5)).at1)) (fun z3 H5 e5 => ?_) fun z3 H5 e5 => ?_) fun v H5 e5 => hq v H5 ((((e1.trans e2).trans e3).trans e4).trans e5)
  · unfold wordOf
    rw [if_neg zn, if_neg (of_decide_eq_false z2), if_pos (of_decide_eq_true z3)]
    exact ed_str.at1
  · unfold wordOf
    rw [if_neg zn, if_neg (of_decide_eq_false z2), if_neg (of_decide_eq_false z3)]
    exact ed_non.at1
end Dome
/-! shows, states, faults -/
namespace Dome
open PySem PySem.Spec PyProof.Rows L2 Evl

theorem cutD_from {ds : List PyData} : cutD ds (some 1) none = ds.drop 1 := by
  unfold cutD
  have e : HT.sIx ds.length 0 (some 1) = min 1 ds.length := HT.sIx_nat ds.length 0 1
  have e2 : HT.sIx ds.length ds.length none = ds.length := rfl
  rw [e, e2]
  cases ds with
  | nil => rfl
  | cons a r =>
    have e3 : min 1 (a :: r).length = 1 := by rw [List.length_cons]; omega
    rw [e3]
    apply List.take_of_length_le
    rw [List.length_drop]
    exact Nat.le_refl _
inductive R_is_state : List PyData → PyData → Prop
  | mk (s : Sky) (st : Stt) : s.ok → st.ok s → st.hid.length ≤ 1000 → R_is_state [eSky s, eStt st] (.bool true)
abbrev sp_is_state (K : PySem.W.Frag) : Sp := spP K R_is_state
abbrev Gd_is_state (P : Program) (w : World) (K : PySem.W.Frag) (mg : Str → Option Value) (base : Heap) : Prop := Good P w K mg base 3 "is_state" ["sky", "thing"] (sp_is_state K)
theorem ok_is_state {P : Program} {w : World} {K : PySem.W.Frag} {mg : Str → Option Value} {base : Heap} (T : Txt K mg) (G_is_row : Gd_is_row P w K mg base) (G_is_whole : Gd_is_whole P w K mg base) (G_is_among : Gd_is_among P w K mg base) : Gd_is_state P w K mg base := by
  refine Good.of T.f_is_state sc_is_state (fun _ _ _ _ _ _ us hl => match us, hl with | [_, _], _ => rfl) (spP_len fun ds d hR => by cases hR <;> rfl) fun cdv A outer s H vs Q E hr h => ?_
  refine ⟨_, (pss_cons (ps_if (PW.pt (pw_or (pt_not (pt_val (pe_g G_is_row (hr.mono (by omega)) (pa_cons (pv 1) (pa_cons pe_int (pa_cons pe_int pa_nil)))))) (pw_or1 (pt_not (pt_val (pe_callB (cr_all rfl) rfl (T.b_all) (by decide +kernel) (pa_cons (pe_lc rfl sc_is_state.nd (pi_tup (pe_slice sl_tupA (pv 1) po_none (po_some pe_int))) (blkOk_by (own := [("one", 2)]) (N := N_is_state) (sc := defScope s_is_state) (by decide +kernel)) (fun _ _ _ _ _ => (pg_name (i := 2) sc_is_state.nd rfl (.inl rfl))) (fun _ _ _ _ _ => pts_nil) (fun _ _ _ _ _ => (pe_g G_is_whole (hr.mono (by omega)) (pa_cons (pv 2) pa_nil)))) pa_nil))))))) (pss_one (ps_ret pe_bl)) pss_nil)
    (pss_cons (ps_if (PW.pt (pw_or (pt_not (pt_val (pe_callB call_isi rfl (T.b_isinstance) (by decide +kernel) (pa_cons (pe_ix (show IxR _ (rIxT K) from ix_tup) (pv 1) pe_int (fun _ _ => rfl)) (pa_cons (pe_bltn (v := .ty "tuple") rfl (T.b_tuple) (by decide +kernel) rfl) pa_nil))))) (pw_or1 (pt_not (pt_val (pe_callB (cr_all rfl) rfl (T.b_all) (by decide +kernel) (pa_cons (pe_lc rfl sc_is_state.nd (pi_tup (pe_ix (show IxR _ (rIxT K) from ix_tup) (pv 1) pe_int (fun _ _ => rfl))) (blkOk_by (own := [("one", 2)]) (N := N_is_state) (sc := defScope s_is_state) (by decide +kernel)) (fun _ _ _ _ _ => (pg_name (i := 2) sc_is_state.nd rfl (.inl rfl))) (fun _ _ _ _ _ => pts_nil) (fun _ _ _ _ _ => (pe_g G_is_among (hr.mono (by omega)) (pa_cons (pv 2) (pa_cons pe_int (pa_cons (pe_op op_sub (pe_callB (show CallR _ (.builtin "len") (rLenQ K) from call_len_seq) rfl (T.b_len) (by decide +kernel) (pa_cons (pe_ix (show IxR _ (rIxT K) from ix_tup) (pv 0) pe_int (fun _ _ => rfl)) pa_nil)) pe_int) pa_nil)))))) pa_nil))))))) (pss_one (ps_ret pe_bl)) pss_nil)
    (pss_one (ps_ret (pe_callB (cr_all rfl) rfl (T.b_all) (by decide +kernel) (pa_cons (pe_lc rfl sc_is_state.nd (RZ.pi_zipA rfl (T.b_zip) (pa_cons (pe_ix (show IxR _ (rIxT K) from ix_tup) (pv 1) pe_int (fun _ _ => rfl)) (pa_cons (pe_slice sl_tupA (pe_ix (show IxR _ (rIxT K) from ix_tup) (pv 1) pe_int (fun _ _ => rfl)) (po_some pe_int) po_none) pa_nil))) (blkOk_by (own := [("one", 2), ("other", 3)]) (N := N_is_state) (sc := defScope s_is_state) (by decide +kernel)) (fun _ _ _ _ _ => (show PG _ _ (gTup K 2 (gCons (gName 2) (gCons (gName 3) gNil))) from pg_tup rfl (pgs_cons (pg_name (i := 2) sc_is_state.nd rfl (.inl rfl)) (pgs_cons (pg_name (i := 3) sc_is_state.nd rfl (.inl rfl)) pgs_nil)))) (fun _ _ _ _ _ => pts_nil) (fun _ _ _ _ _ => (pe_cmpR op_lt (pv 2) (pv 3) (nomark _)))) pa_nil)))))), ?_⟩
  obtain ⟨ds, d, ha, hR, hq⟩ := h
  cases hR with
  | mk s st hs ht hn =>
  obtain ⟨v1, v2, rfl, h1, h2⟩ := ha.c2
  refine (sq_no (eb_or (a := false) (b := false) (eb_not (a := true) (eb_val (ed_call (ea_cons (ed_var rfl h2) (ea_cons ed_int (ea_cons ed_int ea_nil))) (isRow ⟨Int.le_refl 4, Int.le_refl 4⟩)))) fun _ => eb_not (a := true) (eb_val (ed_allT (xs := [st.m, st.e, st.n]) (el_mapT (enc := .int) (fun _ => .bool true) (ed_is (ed_sl (ed_var rfl h2) eo_none (eo_some (K := K) ed_int)) rfl) (fun _ => rfl) (fun k hk v H1 t kv => ed_call (ea_cons (ed_var rfl kv) ea_nil) (.mk k)) (Nat.le_of_ble_eq_true rfl))))) fun H1 e1 => ?_)
  have h1 := h1.ex e1
  have h2 := h2.ex e1
  refine (sq_no (eb_or (a := false) (b := false) (eb_not (a := true) (eb_val (ed_isiTup (ed_ix (ed_var rfl h2) ed_int rfl)))) fun _ => eb_not (a := true) (eb_val (ed_allT (xs := st.hid) (el_mapT (enc := .int) (fun _ => .bool true) (ed_ix (ed_var rfl h2) ed_int rfl) (fun _ => rfl) (fun k hk v H2 t kv => ed_call (ea_cons (ed_var rfl kv) (ea_cons ed_int (ea_cons (ed_sub (ed_len (ed_ix (ed_var rfl (h1.at t)) ed_int rfl)) ed_int) ea_nil))) (among (by rw [List.length_map]; exact ht.rng k hk))) (by omega))))) fun H2 e2 => ?_)
  have h1 := h1.ex e2
  have h2 := h2.ex e2
  refine sd_ret (ed_allT (xs := List.range (min (st.hid.map PyData.int).length ((st.hid.map PyData.int).drop 1).length)) (el_is (el_lcZ (ds := st.hid.map .int) (es := (st.hid.map .int).drop 1) (fun _ => true) (fun _ => .bool true) (ed_ix (ed_var rfl h2) ed_int rfl) (ed_is (ed_sl (ed_ix (ed_var rfl h2) ed_int rfl) (eo_some (K := K) ed_int) eo_none) (congrArg PyData.tuple cutD_from)) (by rw [List.length_map]; omega) (fun _ _ => rfl) (fun _ _ _ _ _ _ _ _ => eb_yes) fun i hi _ v u H3 t kv ku => ?_) (giv_range _ _))) fun v H3 e3 => hq v H3 ((e1.trans e2).trans e3)
  rw [List.length_drop, List.length_map] at hi
  have i1 : i < st.hid.length := by omega
  have i2 : i + 1 < st.hid.length := by omega
  have g1 : (st.hid.map PyData.int).getD i .none = .int st.hid[i] := getD_map (List.getElem?_eq_getElem i1)
  have g2 : ((st.hid.map PyData.int).drop 1).getD i .none = .int st.hid[i + 1] := by
    rw [← List.map_drop]
    refine getD_map ?_
    rw [List.getElem?_drop, Nat.add_comm 1 i]
    exact List.getElem?_eq_getElem i2
  rw [g1] at kv
  rw [g2] at ku
  refine ed_is (ed_lt (ed_var rfl kv) (ed_var rfl ku)) ?_
  have := List.pairwise_iff_getElem.mp ht.rise i (i + 1) i1 i2 (Nat.lt_succ_self i)
  rw [decide_eq_true this]

inductive R_need_state : List PyData → PyData → Prop
  | mk (s : Sky) (st : Stt) : s.ok → st.ok s → st.hid.length ≤ 1000 → R_need_state [eSky s, eStt st] .none
abbrev sp_need_state (K : PySem.W.Frag) : Sp := spP K R_need_state
abbrev Gd_need_state (P : Program) (w : World) (K : PySem.W.Frag) (mg : Str → Option Value) (base : Heap) : Prop := Good P w K mg base 4 "need_state" ["sky", "thing"] (sp_need_state K)
theorem ok_need_state {P : Program} {w : World} {K : PySem.W.Frag} {mg : Str → Option Value} {base : Heap} (T : Txt K mg) (G_is_state : Gd_is_state P w K mg base) : Gd_need_state P w K mg base := by
  refine Good.of T.f_need_state sc_need_state (fun _ _ _ _ _ _ us hl => match us, hl with | [_, _], _ => rfl) (spP_len fun ds d hR => by cases hR <;> rfl) fun cdv A outer s H vs Q E hr h => ?_
  refine ⟨_, (pss_one (ps_if (pt_not (pt_val (pe_g G_is_state (hr.mono (by omega)) (pa_cons (pv 0) (pa_cons (pv 1) pa_nil))))) (pss_one ps_never) pss_nil)), ?_⟩
  obtain ⟨ds, d, ha, hR, hq⟩ := h
  cases hR with
  | mk s st hs ht hn =>
  obtain ⟨v1, v2, rfl, h1, h2⟩ := ha.c2
  exact sd_no (eb_not (a := true) (eb_val (ed_call (ea_cons (ed_var rfl h1) (ea_cons (ed_var rfl h2) ea_nil)) (.mk s st hs ht hn)))) fun H1 e1 => hq .non H1 e1 .non

inductive R_is_show : List PyData → PyData → Prop
  | mk (s : Sky) (w : Show) : w.ok s → R_is_show [eSky s, eShow w] (.bool true)
abbrev sp_is_show (K : PySem.W.Frag) : Sp := spP K R_is_show
abbrev Gd_is_show (P : Program) (w : World) (K : PySem.W.Frag) (mg : Str → Option Value) (base : Heap) : Prop := Good P w K mg base 5 "is_show" ["sky", "thing"] (sp_is_show K)
theorem ok_is_show {P : Program} {w : World} {K : PySem.W.Frag} {mg : Str → Option Value} {base : Heap} (T : Txt K mg) (G_is_among : Gd_is_among P w K mg base) (G_is_row : Gd_is_row P w K mg base) (G_are_lamps : Gd_are_lamps P w K mg base) : Gd_is_show P w K mg base := by
  refine Good.of T.f_is_show sc_is_show (fun _ _ _ _ _ _ us hl => match us, hl with | [_, _], _ => rfl) (spP_len fun ds d hR => by cases hR <;> rfl) fun cdv A outer s H vs Q E hr h => ?_
  refine ⟨_, (pss_cons (ps_if (PW.pt (pw_or (pt_not (pt_val (pe_g G_is_row (hr.mono (by omega)) (pa_cons (pv 1) (pa_cons pe_int (pa_cons pe_int pa_nil)))))) (pw_or (pt_not (pt_val (pe_g G_are_lamps (hr.mono (by omega)) (pa_cons (pv 0) (pa_cons (pe_ix (show IxR _ (rIxT K) from ix_tup) (pv 1) pe_int (fun _ _ => rfl)) pa_nil))))) (pw_or1 (pt_not (pt_val (pe_g G_is_row (hr.mono (by omega)) (pa_cons (pe_ix (show IxR _ (rIxT K) from ix_tup) (pv 1) pe_int (fun _ _ => rfl)) (pa_cons (pe_callB (show CallR _ (.builtin "len") (rLenQ K) from call_len_seq) rfl (T.b_len) (by decide +kernel) (pa_cons (pe_ix (show IxR _ (rIxT K) from ix_tup) (pv 1) pe_int (fun _ _ => rfl)) pa_nil)) (pa_cons (pe_callB (show CallR _ (.builtin "len") (rLenQ K) from call_len_seq) rfl (T.b_len) (by decide +kernel) (pa_cons (pe_ix (show IxR _ (rIxT K) from ix_tup) (pv 1) pe_int (fun _ _ => rfl)) pa_nil)) pa_nil)))))))))) (pss_one (ps_ret pe_bl)) pss_nil)
    (pss_one (ps_ret (pe_and (pe_callB (cr_all rfl) rfl (T.b_all) (by decide +kernel) (pa_cons (pe_lc rfl sc_is_show.nd (pi_tup (pe_ix (show IxR _ (rIxT K) from ix_tup) (pv 1) pe_int (fun _ _ => rfl))) (blkOk_by (own := [("off", 2)]) (N := N_is_show) (sc := defScope s_is_show) (by decide +kernel)) (fun _ _ _ _ _ => (pg_name (i := 2) sc_is_show.nd rfl (.inl rfl))) (fun _ _ _ _ _ => pts_nil) (fun _ _ _ _ _ => (pe_g G_is_among (hr.mono (by omega)) (pa_cons (pv 2) (pa_cons (pe_un un_neg (pe_gi (T.i_MOST_OFF))) (pa_cons (pe_gi (T.i_MOST_OFF)) pa_nil)))))) pa_nil)) (pe_one (pe_g G_is_among (hr.mono (by omega)) (pa_cons (pe_ix (show IxR _ (rIxT K) from ix_tup) (pv 1) pe_int (fun _ _ => rfl)) (pa_cons pe_int (pa_cons (pe_gi (T.i_MOST_OFF)) pa_nil))))))))), ?_⟩
  obtain ⟨ds, d, ha, hR, hq⟩ := h
  cases hR with
  | mk s w hw =>
  obtain ⟨v1, v2, rfl, h1, h2⟩ := ha.c2
  have n2 := hw.n2
  have no := hw.no
  refine (sq_no (eb_or (a := false) (b := false) (eb_not (a := true) (eb_val (ed_call (ea_cons (ed_var rfl h2) (ea_cons ed_int (ea_cons ed_int ea_nil))) (isRow ⟨Int.le_refl 3, Int.le_refl 3⟩)))) fun _ => eb_or (a := false) (b := false) (eb_not (a := true) (eb_val (ed_call (ea_cons (ed_var rfl h1) (ea_cons (ed_ix (ed_var rfl h2) ed_int rfl) ea_nil)) (.mk s w.lamps hw.n1 n2 hw.ls)))) fun _ => eb_not (a := true) (eb_val (ed_call (ea_cons (ed_ix (ed_var rfl h2) ed_int rfl) (ea_cons (ed_len (ed_ix (ed_var rfl h2) ed_int rfl)) (ea_cons (ed_len (ed_ix (ed_var rfl h2) ed_int rfl)) ea_nil))) (isRow ⟨by rw [List.length_map, List.length_map]; omega, by rw [List.length_map, List.length_map]; omega⟩)))) fun H1 e1 => ?_)
  have h1 := h1.ex e1
  have h2 := h2.ex e1
  exact sd_ret (ed_andB (a := true) (b := true) (ed_allT (el_mapT (fun _ => .bool true) (ed_ix (ed_var rfl h2) ed_int rfl) (fun _ => rfl) (fun k hk v H2 t kv => ed_call (ea_cons (ed_var rfl kv) (ea_cons (ed_neg ed_int) (ea_cons ed_int ea_nil))) (among (hw.of k hk))) (by omega))) fun _ => ed_call (ea_cons (ed_ix (ed_var rfl h2) ed_int rfl) (ea_cons ed_int (ea_cons ed_int ea_nil))) (among ⟨hw.s1, hw.s2⟩)) fun v H3 e3 => hq v H3 (e1.trans e3)

inductive R_need_show : List PyData → PyData → Prop
  | mk (s : Sky) (w : Show) : s.ok → w.ok s → R_need_show [eSky s, eShow w] .none
abbrev sp_need_show (K : PySem.W.Frag) : Sp := spP K R_need_show
abbrev Gd_need_show (P : Program) (w : World) (K : PySem.W.Frag) (mg : Str → Option Value) (base : Heap) : Prop := Good P w K mg base 6 "need_show" ["sky", "thing"] (sp_need_show K)
theorem ok_need_show {P : Program} {w : World} {K : PySem.W.Frag} {mg : Str → Option Value} {base : Heap} (T : Txt K mg) (G_need_sky : Gd_need_sky P w K mg base) (G_is_show : Gd_is_show P w K mg base) : Gd_need_show P w K mg base := by
  refine Good.of T.f_need_show sc_need_show (fun _ _ _ _ _ _ us hl => match us, hl with | [_, _], _ => rfl) (spP_len fun ds d hR => by cases hR <;> rfl) fun cdv A outer s H vs Q E hr h => ?_
  refine ⟨_, (pss_cons (ps_expr (pe_g G_need_sky (hr.mono (by omega)) (pa_cons (pv 0) pa_nil)))
    (pss_one (ps_if (pt_not (pt_val (pe_g G_is_show (hr.mono (by omega)) (pa_cons (pv 0) (pa_cons (pv 1) pa_nil))))) (pss_one ps_never) pss_nil))), ?_⟩
  obtain ⟨ds, d, ha, hR, hq⟩ := h
  cases hR with
  | mk s w hs hw =>
  obtain ⟨v1, v2, rfl, h1, h2⟩ := ha.c2
  refine sq_drop (ed_call (ea_cons (ed_var rfl h1) ea_nil) (.mk s hs)) fun H1 e1 => ?_
  have h1 := h1.ex e1
  have h2 := h2.ex e1
  exact sd_no (eb_not (a := true) (eb_val (ed_call (ea_cons (ed_var rfl h1) (ea_cons (ed_var rfl h2) ea_nil)) (.mk s w hw)))) fun H2 e2 => hq .non H2 (e1.trans e2) .non

inductive R_cell_of : List PyData → PyData → Prop
  | mk (s : Sky) (st : Stt) (k : Nat) (l : Light) : s.ok → s.lights[k]? = some l → R_cell_of [eSky s, eStt st, .int (k : Int)] (eCellO (cellOf s st k l))
abbrev sp_cell_of (K : PySem.W.Frag) : Sp := spP K R_cell_of
abbrev Gd_cell_of (P : Program) (w : World) (K : PySem.W.Frag) (mg : Str → Option Value) (base : Heap) : Prop := Good P w K mg base 5 "cell_of" ["sky", "state", "light"] (sp_cell_of K)
theorem ok_cell_of {P : Program} {w : World} {K : PySem.W.Frag} {mg : Str → Option Value} {base : Heap} (T : Txt K mg) (G_up_by : Gd_up_by P w K mg base) : Gd_cell_of P w K mg base := by
  refine Good.of T.f_cell_of sc_cell_of (fun _ _ _ _ _ _ us hl => match us, hl with | [_, _, _], _ => rfl) (spP_len fun ds d hR => by cases hR <;> rfl) fun cdv A outer s H vs Q E hr h => ?_
  refine ⟨_, (pss_cons (ps_asg (pv 1) (show PG _ _ (gTup K 4 (gCons (gName 3) (gCons (gName 4) (gCons (gName 5) (gCons (gName 6) gNil))))) from pg_tup rfl (pgs_cons (pg_name (i := 3) sc_cell_of.nd rfl (.inl rfl)) (pgs_cons (pg_name (i := 4) sc_cell_of.nd rfl (.inl rfl)) (pgs_cons (pg_name (i := 5) sc_cell_of.nd rfl (.inl rfl)) (pgs_cons (pg_name (i := 6) sc_cell_of.nd rfl (.inl rfl)) pgs_nil))))))
    (pss_one (ps_ret (pe_ifExp (pt_cmpR (show OpR _ _ (rIn K false) from op_in_seq) (pv 2) (pv 6) rfl) pe_non (pe_g G_up_by (hr.mono (by omega)) (pa_cons (pv 0) (pa_cons (pv 2) (pa_cons (pv 4) (pa_cons (pv 5) (pa_cons (pv 3) pa_nil)))))))))), ?_⟩
  obtain ⟨ds, d, ha, hR, hq⟩ := h
  cases hR with
  | mk s st k l hs hk =>
  obtain ⟨v1, v2, v3, rfl, h1, h2, h3⟩ := ha.c3
  refine sq_un4 (ed_var rfl h2) fun x1 x2 x3 x4 H1 e1 k1 k2 k3 k4 => ?_
  have h1 := h1.ex e1
  have h3 := h3.ex e1
  refine sd_ret (ed_if (eb_val (ed_in (ed_var rfl h3) (ed_var rfl k4))) (fun c => ?_) fun c => ?_) fun v H3 e3 => hq v H3 (e1.trans e3)
  · unfold cellOf
    rw [if_pos (of_decide_eq_true c)]
    exact ed_non
  · unfold cellOf
    rw [if_neg (of_decide_eq_false c)]
    exact ed_call (ea_cons (ed_var rfl h1) (ea_cons (ed_var rfl h3) (ea_cons (ed_var rfl k2) (ea_cons (ed_var rfl k3) (ea_cons (ed_var rfl k1) ea_nil))))) (.mk s k l st.e st.n st.m hs hk)

inductive R_fault_by : List PyData → PyData → Prop
  | mk (s : Sky) (w : Show) (st : Stt) : s.ok → w.fit → R_fault_by [eSky s, eShow w, eStt st] (eFault (faultBy s w st))
abbrev sp_fault_by (K : PySem.W.Frag) : Sp := spP K R_fault_by
abbrev Gd_fault_by (P : Program) (w : World) (K : PySem.W.Frag) (mg : Str → Option Value) (base : Heap) : Prop := Good P w K mg base 6 "fault_by" ["sky", "show", "state"] (sp_fault_by K)
theorem ok_fault_by {P : Program} {w : World} {K : PySem.W.Frag} {mg : Str → Option Value} {base : Heap} (T : Txt K mg) (G_cell_of : Gd_cell_of P w K mg base) (G_word_of : Gd_word_of P w K mg base) : Gd_fault_by P w K mg base := by
  refine Good.of T.f_fault_by sc_fault_by (fun _ _ _ _ _ _ us hl => match us, hl with | [_, _, _], _ => rfl) (spP_len fun ds d hR => by cases hR <;> rfl) fun cdv A outer s H vs Q E hr h => ?_
  refine ⟨_, (pss_cons (ps_for PassesOwn.never rfl (pi_range1 rfl (T.b_range) (pa_cons (pe_callB (show CallR _ (.builtin "len") (rLenQ K) from call_len_seq) rfl (T.b_len) (by decide +kernel) (pa_cons (pe_ix (show IxR _ (rIxT K) from ix_tup) (pv 0) pe_int (fun _ _ => rfl)) pa_nil)) pa_nil)) (pg_name (i := 3) sc_fault_by.nd rfl (.inl rfl)) (pss_cons (ps_set (i := 4) sc_fault_by.nd rfl (.inl rfl) (pe_g G_cell_of (hr.mono (by omega)) (pa_cons (pv 0) (pa_cons (pv 2) (pa_cons (pv 3) pa_nil)))))
    (pss_cons (ps_set (i := 5) sc_fault_by.nd rfl (.inl rfl) (pe_ifExp (pt_cmpR op_isN (pv 4) pe_non (nomark _)) pe_non (pe_g G_word_of (hr.mono (by omega)) (pa_cons (pv 1) (pa_cons (pv 4) pa_nil)))))
    (pss_one (ps_if (pt_cmpR op_notN (pv 5) pe_non (nomark _)) (pss_one (ps_ret (pe_tup (pa_cons (pv 3) (pa_cons (pv 5) pa_nil))))) pss_nil)))))
    (pss_one (ps_ret pe_non))), ?_⟩
  obtain ⟨ds, d, ha, hR, hq⟩ := h
  cases hR with
  | mk s w st hs hw =>
  obtain ⟨v1, v2, v3, rfl, h1, h2, h3⟩ := ha.c3
  have n2 := hs.n2
  refine sq_forR (n := s.lights.length) (ea_cons (ed_is (ed_len (ed_ix (ed_var rfl h1) ed_int rfl)) (by rw [List.length_map])) ea_nil) (by omega) fun H1 e1 => ⟨fun i σ' H' => (∃ a b c, σ' = [some v1, some v2, some v3, a, b, c]) ∧ Ex H1 H' ∧ faultFrom s w st i (s.lights.drop i) = faultBy s w st, ⟨⟨none, none, none, rfl⟩, Ex.refl _, rfl⟩, fun i σ' H' hi p => ?_, fun σ' H' p => ?_⟩
  · obtain ⟨⟨a, b, c, rfl⟩, eH, ef⟩ := p
    have eI := e1.trans eH
    have ei : s.lights[i]? = some s.lights[i] := List.getElem?_eq_getElem hi
    rw [List.drop_eq_getElem_cons hi, faultFrom] at ef
    refine sq_asg (ed_call (ea_cons (ed_var rfl (h1.ex eI)) (ea_cons (ed_var rfl (h3.ex eI)) (ea_cons (ed_var rfl (.int _)) ea_nil))) (.mk s st i s.lights[i] hs ei)) fun x H2 e2 kx => ?_
    refine sq_asg (K := K) (d := eStrO (wordAt s w st i s.lights[i])) (ed_if (eb_val (ed_isN (ed_var rfl kx))) (fun z => ?_) fun z => ?_) fun y H3 e3 ky => ?_
    · have hc : cellOf s st i s.lights[i] = none := by
        cases q : cellOf s st i s.lights[i] with
        | none => rfl
        | some c => rw [q] at z; cases z
      unfold wordAt
      rw [hc]
      exact ed_non
    · cases q : cellOf s st i s.lights[i] with
      | none => rw [q] at z; cases z
      | some c =>
        obtain ⟨c1, c2⟩ := c
        unfold wordAt
        rw [q] at kx ⊢
        exact ed_call (ea_cons (ed_var rfl (h2.ex (eI.trans e2))) (ea_cons (ed_var rfl kx) ea_nil)) (.mk w c1 c2 hw)
    · refine sd_if (eb_val (ed_notN (ed_var rfl ky))) (fun z H4 e4 => ?_) fun z H4 e4 => ?_
      · cases q : wordAt s w st i s.lights[i] with
        | none => rw [q] at z; cases z
        | some x1 =>
          rw [q] at ef ky
          refine sd_ret (ed_tup (ea_cons (ed_var rfl (.int _)) (ea_cons (ed_var rfl (ky.ex e4)) ea_nil))) fun v H5 e5 kv => hq v H5 ((((eI.trans e2).trans e3).trans e4).trans e5) ?_
          rw [← ef]
          exact kv
      · cases q : wordAt s w st i s.lights[i] with
        | some x1 => rw [q] at z; cases z
        | none =>
          rw [q] at ef
          exact ⟨⟨_, _, _, rfl⟩, ((eH.trans e2).trans e3).trans e4, ef⟩
  · obtain ⟨⟨a, b, c, rfl⟩, eH, ef⟩ := p
    rw [List.drop_length, faultFrom] at ef
    refine sd_ret (K := K) ed_non fun v H5 e5 kv => hq v H5 ((e1.trans eH).trans e5) ?_
    rw [← ef]
    exact kv

inductive R_has_fault : List PyData → PyData → Prop
  | mk (s : Sky) (w : Show) (st : Stt) : s.ok → w.fit → R_has_fault [eSky s, eShow w, eStt st] (.bool (hasFault s w st))
abbrev sp_has_fault (K : PySem.W.Frag) : Sp := spP K R_has_fault
abbrev Gd_has_fault (P : Program) (w : World) (K : PySem.W.Frag) (mg : Str → Option Value) (base : Heap) : Prop := Good P w K mg base 7 "has_fault" ["sky", "show", "state"] (sp_has_fault K)
theorem ok_has_fault {P : Program} {w : World} {K : PySem.W.Frag} {mg : Str → Option Value} {base : Heap} (T : Txt K mg) (G_fault_by : Gd_fault_by P w K mg base) : Gd_has_fault P w K mg base := by
  refine Good.of T.f_has_fault sc_has_fault (fun _ _ _ _ _ _ us hl => match us, hl with | [_, _, _], _ => rfl) (spP_len fun ds d hR => by cases hR <;> rfl) fun cdv A outer s H vs Q E hr h => ?_
  refine ⟨_, (pss_one (ps_ret (pe_cmpR op_notN (pe_g G_fault_by (hr.mono (by omega)) (pa_cons (pv 0) (pa_cons (pv 1) (pa_cons (pv 2) pa_nil)))) pe_non (nomark _)))), ?_⟩
  obtain ⟨ds, d, ha, hR, hq⟩ := h
  cases hR with
  | mk s w st hs hw =>
  obtain ⟨v1, v2, v3, rfl, h1, h2, h3⟩ := ha.c3
  refine sd_ret (ed_is (ed_notN (ed_call (ea_cons (ed_var rfl h1) (ea_cons (ed_var rfl h2) (ea_cons (ed_var rfl h3) ea_nil))) (.mk s w st hs hw))) ?_) hq
  unfold hasFault
  cases faultBy s w st <;> rfl

inductive R_fault : List PyData → PyData → Prop
  | mk (s : Sky) (w : Show) (st : Stt) : s.ok → w.ok s → st.ok s → st.hid.length ≤ 1000 → R_fault [eSky s, eShow w, eStt st] (eFault (faultBy s w st))
abbrev sp_fault (K : PySem.W.Frag) : Sp := spP K R_fault
abbrev Gd_fault (P : Program) (w : World) (K : PySem.W.Frag) (mg : Str → Option Value) (base : Heap) : Prop := Good P w K mg base 7 "fault" ["sky", "show", "state"] (sp_fault K)
theorem ok_fault {P : Program} {w : World} {K : PySem.W.Frag} {mg : Str → Option Value} {base : Heap} (T : Txt K mg) (G_need_show : Gd_need_show P w K mg base) (G_need_state : Gd_need_state P w K mg base) (G_fault_by : Gd_fault_by P w K mg base) : Gd_fault P w K mg base := by
  refine Good.of T.f_fault sc_fault (fun _ _ _ _ _ _ us hl => match us, hl with | [_, _, _], _ => rfl) (spP_len fun ds d hR => by cases hR <;> rfl) fun cdv A outer s H vs Q E hr h => ?_
  refine ⟨_, (pss_cons (ps_expr (pe_g G_need_show (hr.mono (by omega)) (pa_cons (pv 0) (pa_cons (pv 1) pa_nil))))
    (pss_cons (ps_expr (pe_g G_need_state (hr.mono (by omega)) (pa_cons (pv 0) (pa_cons (pv 2) pa_nil))))
    (pss_one (ps_ret (pe_g G_fault_by (hr.mono (by omega)) (pa_cons (pv 0) (pa_cons (pv 1) (pa_cons (pv 2) pa_nil)))))))), ?_⟩
  obtain ⟨ds, d, ha, hR, hq⟩ := h
  cases hR with
  | mk s w st hs hw ht hn =>
  obtain ⟨v1, v2, v3, rfl, h1, h2, h3⟩ := ha.c3
  refine sq_drop (ed_call (ea_cons (ed_var rfl h1) (ea_cons (ed_var rfl h2) ea_nil)) (.mk s w hs hw)) fun H1 e1 => ?_
  refine sq_drop (ed_call (ea_cons (ed_var rfl (h1.ex e1)) (ea_cons (ed_var rfl (h3.ex e1)) ea_nil)) (.mk s st hs ht hn)) fun H2 e2 => ?_
  have e := e1.trans e2
  exact sd_ret (ed_call (ea_cons (ed_var rfl (h1.ex e)) (ea_cons (ed_var rfl (h2.ex e)) (ea_cons (ed_var rfl (h3.ex e)) ea_nil))) (.mk s w st hs hw.fit)) fun v H3 e3 => hq v H3 (e.trans e3)

noncomputable def eShownO (w : Show) : Option (Int × Int) → PyData
  | none => .tuple []
  | some c => .tuple ((sortP (shownAt w (some c))).map pairD)
inductive R_shown_at : List PyData → PyData → Prop
  | mk (w : Show) (c : Option (Int × Int)) : w.fit → R_shown_at [eShow w, eCellO c] (eShownO w c)
abbrev sp_shown_at (K : PySem.W.Frag) : Sp := spP K R_shown_at
abbrev Gd_shown_at (P : Program) (w : World) (K : PySem.W.Frag) (mg : Str → Option Value) (base : Heap) : Prop := Good P w K mg base 3 "shown_at" ["show", "cell"] (sp_shown_at K)
theorem ok_shown_at {P : Program} {w : World} {K : PySem.W.Frag} {mg : Str → Option Value} {base : Heap} (T : Txt K mg) (G_covering_by : Gd_covering_by P w K mg base) : Gd_shown_at P w K mg base := by
  refine Good.of T.f_shown_at sc_shown_at (fun _ _ _ _ _ _ us hl => match us, hl with | [_, _], _ => rfl) (spP_len fun ds d hR => by cases hR <;> rfl) fun cdv A outer s H vs Q E hr h => ?_
  refine ⟨_, (pss_cons (ps_if (pt_cmpR op_isN (pv 1) pe_non (nomark _)) (pss_one (ps_ret (pe_tup pa_nil))) pss_nil)
    (pss_one (ps_ret (pe_callTy call_tuple_of rfl (T.b_tuple) (by decide +kernel) (pa_cons (pe_callB cr_sortedPO rfl (T.b_sorted) (by decide +kernel) (pa_cons (pe_lc rfl sc_shown_at.nd (pi_tup (pe_g G_covering_by (hr.mono (by omega)) (pa_cons (pe_ix (show IxR _ (rIxT K) from ix_tup) (pv 0) pe_int (fun _ _ => rfl)) (pa_cons (pv 1) pa_nil)))) (blkOk_by (own := [("lamp", 2)]) (N := N_shown_at) (sc := defScope s_shown_at) (by decide +kernel)) (fun _ _ _ _ _ => (pg_name (i := 2) sc_shown_at.nd rfl (.inl rfl))) (fun _ _ _ _ _ => pts_nil) (fun _ _ _ _ _ => (pe_tup (pa_cons (pe_op op_add (pe_ix (show IxR _ (rIxT K) from ix_tup) (pv 1) pe_int (fun _ _ => rfl)) (pe_ix (show IxR _ (rIxT K) from ix_tup) (pe_ix (show IxR _ (rIxT K) from ix_tup) (pv 0) pe_int (fun _ _ => rfl)) (pv 2) (fun _ _ => rfl))) (pa_cons (pv 2) pa_nil))))) pa_nil)) pa_nil))))), ?_⟩
  obtain ⟨ds, d, ha, hR, hq⟩ := h
  cases hR with
  | mk w c hw =>
  obtain ⟨v1, v2, rfl, h1, h2⟩ := ha.c2
  have n2 := hw.n2
  have no := hw.no
  cases c with
  | none => exact sq_ifN (eb_val (ed_isN (ed_var rfl h2))) (fun z H1 e1 => sd_ret (K := K) (ed_tup ea_nil) fun v H2 e2 => hq v H2 (e1.trans e2)) fun z => nomatch z
  | some c =>
    obtain ⟨c, r⟩ := c
    refine sq_no (eb_val (ed_isN (ed_var rfl h2))) fun H1 e1 => ?_
    have h1 := h1.ex e1
    have h2 := h2.ex e1
    refine sd_ret (ed_tuple (ed_sortedP (elp_lc (ns := covering w.lamps c r) (fun k => (c + w.offs.getD k.toNat 0, k)) (ed_call (ea_cons (ed_ix (ed_var rfl h1) ed_int rfl) (ea_cons (ed_var rfl h2) ea_nil)) (.mk w.lamps c r n2)) (fun _ => rfl) (fun k hk H2 t => ?_) (fun k hk H2 t => ed_var rfl (.int _)) (Nat.le_trans cov_len (by omega))))) fun v H2 e2 => hq v H2 (e1.trans e2)
    have m := cov_mem hk
    exact ed_add (ed_ix (ed_var rfl (h2.at t)) ed_int rfl) (ed_ix (ed_ix (ed_var rfl (h1.at t)) ed_int rfl) (ed_var rfl (.int _)) (atI_ints (by omega) (by omega)))

def cellAt (s : Sky) (st : Stt) (k : Nat) : Option (Int × Int) := match s.lights[k]? with
  | some l => cellOf s st k l
  | none => none
noncomputable def eShown (s : Sky) (w : Show) (st : Stt) : List PyData := (List.range s.lights.length).map fun k => eShownO w (cellAt s st k)
inductive R_shown : List PyData → PyData → Prop
  | mk (s : Sky) (w : Show) (st : Stt) : s.ok → w.ok s → st.ok s → st.hid.length ≤ 1000 → R_shown [eSky s, eShow w, eStt st] (.tuple (eShown s w st))
abbrev sp_shown (K : PySem.W.Frag) : Sp := spP K R_shown
abbrev Gd_shown (P : Program) (w : World) (K : PySem.W.Frag) (mg : Str → Option Value) (base : Heap) : Prop := Good P w K mg base 7 "shown" ["sky", "show", "state"] (sp_shown K)
theorem ok_shown {P : Program} {w : World} {K : PySem.W.Frag} {mg : Str → Option Value} {base : Heap} (T : Txt K mg) (G_need_show : Gd_need_show P w K mg base) (G_need_state : Gd_need_state P w K mg base) (G_shown_at : Gd_shown_at P w K mg base) (G_cell_of : Gd_cell_of P w K mg base) : Gd_shown P w K mg base := by
  refine Good.of T.f_shown sc_shown (fun _ _ _ _ _ _ us hl => match us, hl with | [_, _, _], _ => rfl) (spP_len fun ds d hR => by cases hR <;> rfl) fun cdv A outer s H vs Q E hr h => ?_
  refine ⟨_, (pss_cons (ps_expr (pe_g G_need_show (hr.mono (by omega)) (pa_cons (pv 0) (pa_cons (pv 1) pa_nil))))
    (pss_cons (ps_expr (pe_g G_need_state (hr.mono (by omega)) (pa_cons (pv 0) (pa_cons (pv 2) pa_nil))))
    (pss_one (ps_ret (pe_callTy call_tuple_of rfl (T.b_tuple) (by decide +kernel) (pa_cons (pe_lc rfl sc_shown.nd (pi_range1 rfl (T.b_range) (pa_cons (pe_callB (show CallR _ (.builtin "len") (rLenQ K) from call_len_seq) rfl (T.b_len) (by decide +kernel) (pa_cons (pe_ix (show IxR _ (rIxT K) from ix_tup) (pv 0) pe_int (fun _ _ => rfl)) pa_nil)) pa_nil)) (blkOk_by (own := [("light", 3)]) (N := N_shown) (sc := defScope s_shown) (by decide +kernel)) (fun _ _ _ _ _ => (pg_name (i := 3) sc_shown.nd rfl (.inl rfl))) (fun _ _ _ _ _ => pts_nil) (fun _ _ _ _ _ => (pe_g G_shown_at (hr.mono (by omega)) (pa_cons (pv 1) (pa_cons (pe_g G_cell_of (hr.mono (by omega)) (pa_cons (pv 0) (pa_cons (pv 2) (pa_cons (pv 3) pa_nil)))) pa_nil))))) pa_nil)))))), ?_⟩
  obtain ⟨ds, d, ha, hR, hq⟩ := h
  cases hR with
  | mk s w st hs hw ht hn =>
  obtain ⟨v1, v2, v3, rfl, h1, h2, h3⟩ := ha.c3
  have n2 := hs.n2
  refine sq_drop (ed_call (ea_cons (ed_var rfl h1) (ea_cons (ed_var rfl h2) ea_nil)) (.mk s w hs hw)) fun H1 e1 => ?_
  refine sq_drop (ed_call (ea_cons (ed_var rfl (h1.ex e1)) (ea_cons (ed_var rfl (h3.ex e1)) ea_nil)) (.mk s st hs ht hn)) fun H2 e2 => ?_
  have e := e1.trans e2
  have h1 := h1.ex e
  have h2 := h2.ex e
  have h3 := h3.ex e
  refine sd_ret (ed_tuple (el_mapR (n := s.lights.length) (fun k => eShownO w (cellAt s st k)) (ea_cons (ed_is (ed_len (ed_ix (ed_var rfl h1) ed_int rfl)) (by rw [List.length_map])) ea_nil) (fun _ => rfl) (by omega) fun i hi H3 t => ?_)) fun v H3 e3 => hq v H3 (e.trans e3)
  have ei : s.lights[i]? = some s.lights[i] := List.getElem?_eq_getElem hi
  have ec : cellAt s st i = cellOf s st i s.lights[i] := by unfold cellAt; rw [ei]
  rw [ec]
  exact ed_call (ea_cons (ed_var rfl (h2.at t)) (ea_cons (ed_call (ea_cons (ed_var rfl (h1.at t)) (ea_cons (ed_var rfl (h3.at t)) (ea_cons (ed_var rfl (.int _)) ea_nil))) (.mk s st i s.lights[i] hs ei)) ea_nil)) (.mk w _ hw.fit)

def badCells (s : Sky) (w : Show) : List (Int × Int) := (cellsOf s).filter fun c => (wordOf w c.1 c.2).isSome
inductive R_bad_cells : List PyData → PyData → Prop
  | mk (s : Sky) (w : Show) : s.ok → w.ok s → R_bad_cells [eSky s, eShow w] (.tuple ((badCells s w).map eCellP))
abbrev sp_bad_cells (K : PySem.W.Frag) : Sp := spP K R_bad_cells
/-- over a new list -/
theorem el_mapL {K : PySem.W.Frag} {σ : L2.St} {H : Hp} {tl te : TE} {tt : TT} {α : Type} {xs : List α} {enc : α → PyData} {j : Nat} {vs : List Nat} (f : α → Bool) (g : α → PyData) (h : El K tl σ H (xs.map enc)) (hw : ∀ x, wipe ((wipe σ vs).set j (some x)) vs = wipe σ vs)
    (ht : ∀ a ∈ xs, ∀ v H1, Tx H H1 → Dt K H1 v (enc a) → Eb tt ((wipe σ vs).set j (some v)) H1 (f a)) (he : ∀ a ∈ xs, f a = true → ∀ v H1, Tx H H1 → Dt K H1 v (enc a) → Ed K te ((wipe σ vs).set j (some v)) H1 (g a)) (hl : xs.length ≤ 10000) :
    El K (tLc (iList K tl) (gName j) tt te vs) σ H ((xs.filter f).map g) := by
  have e0 : giv (fun i => match xs[i]? with | some a => f a | none => false) (fun i => match xs[i]? with | some a => g a | none => .none) xs.length = (xs.filter f).map g := giv_list xs fun i a ha => by
    rw [ha]
    exact ⟨rfl, rfl⟩
  rw [← e0]
  refine el_lcN (J := Itl K 0) (G := fun _ => True) (fun i => (xs.map enc).getD i .none) _ _ (fun H1 e R q => h H1 e _ fun p ws H2 hp e2 hx hA => ?_) hl hw (fun i hi v H1 t k => ?_) (fun i hi hf v H1 t k => ?_)
  · refine ⟨p, rfl, ⟨ws, sq_of hx⟩, q (Itl K p) (fun H => H p = some (.lst ws)) (fun i => ws.getD i .non) H2 e2 ?_ hx (fun Ha Hb _ eb _ => eb _ _ hx) fun i hi => ?_⟩
    · have hl2 := hA.len
      rw [List.length_map] at hl2
      rw [← hl2]
      exact (walk_list (K := K) (a := p) (xs := ws)).mono (fun _ h => sq_of h) fun i H x H' hi _ y => ⟨y.1, by rw [List.getD_eq_getElem?_getD, y.2]; rfl⟩
    · obtain ⟨w, hw1, hw2⟩ := hA.get (i := i) (d := (xs.map enc).getD i .none) (by rw [List.getD_eq_getElem?_getD, List.getElem?_eq_getElem (by rw [List.length_map]; exact hi)]; rfl)
      rw [List.getD_eq_getElem?_getD, hw1]
      exact hw2
  · have ei : xs[i]? = some xs[i] := List.getElem?_eq_getElem hi
    rw [getD_map ei] at k
    rw [ei]
    exact ht _ (List.getElem_mem hi) v H1 t k
  · have ei : xs[i]? = some xs[i] := List.getElem?_eq_getElem hi
    rw [getD_map ei] at k
    rw [ei] at hf ⊢
    exact he _ (List.getElem_mem hi) hf v H1 t k
theorem cells_len {s : Sky} (hs : s.ok) : (cellsOf s).length ≤ 10000 := by
  unfold cellsOf
  rw [List.length_flatMap]
  have : ((List.range (s.wide / 2).toNat).map fun i => ((List.range s.high.toNat).map fun j => (((i : Nat) : Int), ((j : Nat) : Int))).length) = List.replicate (s.wide / 2).toNat s.high.toNat := by
    refine List.eq_replicate_iff.mpr ⟨by simp, fun b hb => ?_⟩
    obtain ⟨i, _, rfl⟩ := List.mem_map.mp hb
    rw [List.length_map, List.length_range]
  rw [this, List.sum_replicate_nat]
  have w1 := hs.w1
  have w2 := hs.w2
  have hh1 := hs.h1
  have hh2 := hs.h2
  have a1 : (s.wide / 2).toNat ≤ 6 := by omega
  have a2 : s.high.toNat ≤ 5 := by omega
  have := Nat.mul_le_mul a1 a2
  omega
abbrev Gd_bad_cells (P : Program) (w : World) (K : PySem.W.Frag) (mg : Str → Option Value) (base : Heap) : Prop := Good P w K mg base 7 "bad_cells" ["sky", "show"] (sp_bad_cells K)
theorem ok_bad_cells {P : Program} {w : World} {K : PySem.W.Frag} {mg : Str → Option Value} {base : Heap} (T : Txt K mg) (G_need_show : Gd_need_show P w K mg base) (G_cells_of : Gd_cells_of P w K mg base) (G_word_of : Gd_word_of P w K mg base) : Gd_bad_cells P w K mg base := by
  refine Good.of T.f_bad_cells sc_bad_cells (fun _ _ _ _ _ _ us hl => match us, hl with | [_, _], _ => rfl) (spP_len fun ds d hR => by cases hR <;> rfl) fun cdv A outer s H vs Q E hr h => ?_
  refine ⟨_, (pss_cons (ps_expr (pe_g G_need_show (hr.mono (by omega)) (pa_cons (pv 0) (pa_cons (pv 1) pa_nil))))
    (pss_one (ps_ret (pe_callTy call_tuple_of rfl (T.b_tuple) (by decide +kernel) (pa_cons (pe_lc rfl sc_bad_cells.nd (pi_list (pe_g G_cells_of (hr.mono (by omega)) (pa_cons (pv 0) pa_nil))) (blkOk_by (own := [("cell", 2)]) (N := N_bad_cells) (sc := defScope s_bad_cells) (by decide +kernel)) (fun _ _ _ _ _ => (pg_name (i := 2) sc_bad_cells.nd rfl (.inl rfl))) (fun _ _ _ _ _ => pts_one (pt_cmpR op_notN (pe_g G_word_of (hr.mono (by omega)) (pa_cons (pv 1) (pa_cons (pv 2) pa_nil))) pe_non (nomark _))) (fun _ _ _ _ _ => (pv 2))) pa_nil))))), ?_⟩
  obtain ⟨ds, d, ha, hR, hq⟩ := h
  cases hR with
  | mk s w hs hw =>
  obtain ⟨v1, v2, rfl, h1, h2⟩ := ha.c2
  refine sq_drop (ed_call (ea_cons (ed_var rfl h1) (ea_cons (ed_var rfl h2) ea_nil)) (.mk s w hs hw)) fun H1 e1 => ?_
  have h1 := h1.ex e1
  have h2 := h2.ex e1
  refine sd_ret (ed_tuple (el_mapL (xs := cellsOf s) (enc := eCellP) (fun c => (wordOf w c.1 c.2).isSome) eCellP (el_call (ea_cons (ed_var rfl h1) ea_nil) (.mk s hs)) (fun _ => rfl) (fun c hc v H2 t kv => eb_is (eb_val (ed_notN (ed_call (ea_cons (ed_var rfl (h2.at t)) (ea_cons (ed_var rfl kv) ea_nil)) (.mk w c.1 c.2 hw.fit)))) ?_) (fun c hc _ v H2 t kv => ed_var rfl kv) (cells_len hs))) fun v H2 e2 => hq v H2 (e1.trans e2)
  cases wordOf w c.1 c.2 <;> rfl
end Dome
/-! items, sums -/
namespace Dome
open PySem PySem.Spec PyProof.Rows L2 Evl

/-! ### facts on items -/
theorem sumI_plain : ∀ (x : Item), plainI x → (sumI x).hid = []
  | .go _ _ _, _ => rfl
  | .flip _, h => by unfold plainI at h; exact h.elim
  | .mark, _ => rfl
  | .again t xs, h => by
    unfold plainI at h
    have := sumL_plain xs zero h rfl
    unfold sumI often
    dsimp only
    rw [this]
    split <;> rfl
where
  sumL_plain : ∀ (xs : List Item) (f : Stt), plainL xs → f.hid = [] → (sumL f xs).hid = []
  | [], f, _, h => by unfold sumL; exact h
  | x :: r, f, hp, h => by
    unfold plainL at hp
    unfold sumL
    refine sumL_plain r _ hp.2 ?_
    unfold putOn
    dsimp only
    rw [h, sumI_plain x hp.1]
    rfl
theorem sums_plain (xs : List Item) (h : plainL xs) : (sums xs).hid = [] := sumI_plain.sumL_plain xs zero h rfl
theorem p12_pos (d : Nat) : (1 : Int) ≤ ((12 ^ d : Nat) : Int) := by
  have := Nat.one_le_two_pow (n := 0)
  have h : 0 < 12 ^ d := Nat.pow_pos (by decide)
  omega
theorem p12_succ (d : Nat) : ((12 ^ (d + 1) : Nat) : Int) = 12 * ((12 ^ d : Nat) : Int) := by
  rw [Nat.pow_succ]
  omega
theorem mul_bd {t a B : Int} (h0 : 0 ≤ t) (h1 : t ≤ 4) (a0 : -B ≤ a) (a1 : a ≤ B) : -(4 * B) ≤ t * a ∧ t * a ≤ 4 * B := by
  have : t = 0 ∨ t = 1 ∨ t = 2 ∨ t = 3 ∨ t = 4 := by omega
  rcases this with rfl | rfl | rfl | rfl | rfl <;> omega
theorem mul_bd0 {t a : Int} (h0 : 0 ≤ t) (h1 : t ≤ 4) (a0 : 0 ≤ a) : 0 ≤ t * a := Int.mul_nonneg h0 a0
theorem len_bd {a B : Int} {n m : Nat} (h : a ≤ (n : Int) * B) (hn : n ≤ m) (hB : 0 ≤ B) : a ≤ (m : Int) * B := Int.le_trans h (Int.mul_le_mul_of_nonneg_right (by omega) hB)
mutual
theorem sizeI_bd (s : Sky) : ∀ (x : Item) (d : Nat), okI s d x → 0 ≤ sizeI x ∧ sizeI x ≤ ((12 ^ d : Nat) : Int)
  | .go _ _ _, d, _ => ⟨Int.zero_le_ofNat 1, p12_pos d⟩
  | .flip _, d, _ => ⟨Int.zero_le_ofNat 1, p12_pos d⟩
  | .mark, d, _ => ⟨Int.le_refl 0, Int.le_trans (by decide) (p12_pos d)⟩
  | .again t xs, 0, h => by unfold okI at h; exact h.elim
  | .again t xs, d + 1, h => by
    unfold okI at h
    obtain ⟨h1, h2, h3, h4⟩ := h
    obtain ⟨a, b⟩ := sizeL_bd s xs d h4
    have b2 := len_bd b h3 (Int.le_trans (by decide) (p12_pos d))
    have := mul_bd h1 h2 (B := 3 * ((12 ^ d : Nat) : Int)) (a := sizeL xs) (by have := p12_pos d; omega) (by omega)
    unfold sizeI
    rw [p12_succ]
    exact ⟨Int.mul_nonneg h1 a, by omega⟩
theorem sizeL_bd (s : Sky) : ∀ (xs : List Item) (d : Nat), okL s d xs → 0 ≤ sizeL xs ∧ sizeL xs ≤ (xs.length : Int) * ((12 ^ d : Nat) : Int)
  | [], d, _ => by unfold sizeL; simp
  | x :: r, d, h => by
    unfold okL at h
    obtain ⟨a, b⟩ := sizeI_bd s x d h.1
    obtain ⟨a2, b2⟩ := sizeL_bd s r d h.2
    unfold sizeL
    have e : (((x :: r).length : Nat) : Int) * ((12 ^ d : Nat) : Int) = (r.length : Int) * ((12 ^ d : Nat) : Int) + ((12 ^ d : Nat) : Int) := by
      rw [List.length_cons, Int.natCast_add, Int.add_mul]
      simp
    rw [e]
    omega
end
mutual
theorem sumI_bd (s : Sky) : ∀ (x : Item) (d : Nat), okI s d x → -(99 * ((12 ^ d : Nat) : Int)) ≤ (sumI x).n ∧ (sumI x).n ≤ 99 * ((12 ^ d : Nat) : Int)
  | .go a b c, d, h => by
    unfold okI at h
    have := p12_pos d
    show -(99 * ((12 ^ d : Nat) : Int)) ≤ c ∧ c ≤ 99 * ((12 ^ d : Nat) : Int)
    omega
  | .flip _, d, _ => by
    have := p12_pos d
    show -(99 * ((12 ^ d : Nat) : Int)) ≤ 0 ∧ 0 ≤ 99 * ((12 ^ d : Nat) : Int)
    omega
  | .mark, d, _ => by
    have := p12_pos d
    show -(99 * ((12 ^ d : Nat) : Int)) ≤ 0 ∧ 0 ≤ 99 * ((12 ^ d : Nat) : Int)
    omega
  | .again t xs, 0, h => by unfold okI at h; exact h.elim
  | .again t xs, d + 1, h => by
    unfold okI at h
    obtain ⟨h1, h2, h3, h4⟩ := h
    obtain ⟨a, b⟩ := sumL_bd s xs d zero h4
    have hp : (0 : Int) ≤ 99 * ((12 ^ d : Nat) : Int) := by have := p12_pos d; omega
    have z : zero.n = 0 := rfl
    rw [z, Int.sub_zero] at a b
    have b2 := len_bd b h3 hp
    have a2 : -((3 : Nat) : Int) * (99 * ((12 ^ d : Nat) : Int)) ≤ (sumL zero xs).n := by
      have := len_bd (a := -(sumL zero xs).n) (n := xs.length) (by omega) h3 hp
      omega
    have := mul_bd h1 h2 (B := 3 * (99 * ((12 ^ d : Nat) : Int))) (a := (sumL zero xs).n) (by omega) (by omega)
    show _ ≤ (sumL zero xs).n * t ∧ (sumL zero xs).n * t ≤ _
    rw [p12_succ, Int.mul_comm (sumL zero xs).n t]
    omega
theorem sumL_bd (s : Sky) : ∀ (xs : List Item) (d : Nat) (f : Stt), okL s d xs → -((xs.length : Int) * (99 * ((12 ^ d : Nat) : Int))) ≤ (sumL f xs).n - f.n ∧ (sumL f xs).n - f.n ≤ (xs.length : Int) * (99 * ((12 ^ d : Nat) : Int))
  | [], d, f, _ => by unfold sumL; simp
  | x :: r, d, f, h => by
    unfold okL at h
    obtain ⟨a, b⟩ := sumI_bd s x d h.1
    obtain ⟨a2, b2⟩ := sumL_bd s r d (putOn f (sumI x)) h.2
    have z : (putOn f (sumI x)).n = f.n + (sumI x).n := rfl
    rw [z] at a2 b2
    unfold sumL
    have e : (((x :: r).length : Nat) : Int) * (99 * ((12 ^ d : Nat) : Int)) = (r.length : Int) * (99 * ((12 ^ d : Nat) : Int)) + 99 * ((12 ^ d : Nat) : Int) := by
      rw [List.length_cons, Int.natCast_add, Int.add_mul]
      simp
    rw [e]
    omega
end
theorem okL_mem {s : Sky} {d : Nat} : ∀ {xs : List Item}, okL s d xs → ∀ x ∈ xs, okI s d x
  | [], _, _, h => nomatch h
  | y :: r, h, x, hx => by
    unfold okL at h
    rcases List.mem_cons.mp hx with rfl | hx
    · exact h.1
    · exact okL_mem h.2 x hx
theorem plainL_mem : ∀ {xs : List Item}, plainL xs → ∀ x ∈ xs, plainI x
  | [], _, _, h => nomatch h
  | y :: r, h, x, hx => by
    unfold plainL at h
    rcases List.mem_cons.mp hx with rfl | hx
    · exact h.1
    · exact plainL_mem h.2 x hx
theorem sizeL_snoc (x : Item) : ∀ xs : List Item, sizeL (xs ++ [x]) = sizeL xs + sizeI x
  | [] => by rw [List.nil_append, sizeL, sizeL, sizeL]; omega
  | y :: r => by rw [List.cons_append, sizeL, sizeL, sizeL_snoc x r]; omega
theorem sizeL_take {xs : List Item} {i : Nat} {x : Item} (h : xs[i]? = some x) : sizeL (xs.take (i + 1)) = sizeL (xs.take i) + sizeI x := by
  obtain ⟨hi, rfl⟩ := List.getElem?_eq_some_iff.mp h
  rw [List.take_succ_eq_append_getElem hi, sizeL_snoc]
theorem ok_again : PyData.strOk "again" = true := by decide +kernel
theorem lay_go (m e n : Int) : (eItem (.go m e n)).canLay0 = true := by
  have e : (eItem (.go m e n)).canLay0 = (PyData.strOk "go" && true) := rfl
  rw [e]
  decide +kernel
theorem lay_flip (l : Int) : (eItem (.flip l)).canLay0 = true := by
  have e : (eItem (.flip l)).canLay0 = (PyData.strOk "flip" && true) := rfl
  rw [e]
  decide +kernel
theorem lay_mark : (eItem .mark).canLay0 = true := by
  have e : (eItem .mark).canLay0 = (PyData.strOk "mark" && true) := rfl
  rw [e]
  decide +kernel
mutual
theorem item_lay (s : Sky) : ∀ (x : Item) (d : Nat), okI s d x → (eItem x).canLay0 = true ∧ (eItem x).depth ≤ 2 * d + 2
  | .go _ _ _, d, _ => ⟨lay_go _ _ _, by show 0 + 1 ≤ _; omega⟩
  | .flip _, d, _ => ⟨lay_flip _, by show 0 + 1 ≤ _; omega⟩
  | .mark, d, _ => ⟨lay_mark, by show 0 + 1 ≤ _; omega⟩
  | .again t xs, 0, h => by unfold okI at h; exact h.elim
  | .again t xs, d + 1, h => by
    unfold okI at h
    obtain ⟨a, b⟩ := items_lay s xs d h.2.2.2
    have e1 : (eItem (.again t xs)).canLay0 = (PyData.strOk "again" && (true && (PyData.canLayAll0 (eItems xs) && true))) := rfl
    have e2 : (eItem (.again t xs)).depth = max 0 (max 0 (max (PyData.depthAll (eItems xs) + 1) 0)) + 1 := rfl
    rw [e1, e2, a, ok_again]
    exact ⟨rfl, by omega⟩
theorem items_lay (s : Sky) : ∀ (xs : List Item) (d : Nat), okL s d xs → PyData.canLayAll0 (eItems xs) = true ∧ PyData.depthAll (eItems xs) ≤ 2 * d + 2
  | [], d, _ => ⟨rfl, Nat.zero_le _⟩
  | x :: r, d, h => by
    unfold okL at h
    obtain ⟨a, b⟩ := item_lay s x d h.1
    obtain ⟨a2, b2⟩ := items_lay s r d h.2
    have e1 : PyData.canLayAll0 (eItems (x :: r)) = ((eItem x).canLay0 && PyData.canLayAll0 (eItems r)) := rfl
    have e2 : PyData.depthAll (eItems (x :: r)) = max (eItem x).depth (PyData.depthAll (eItems r)) := rfl
    rw [e1, e2, a, a2]
    exact ⟨rfl, by omega⟩
end
theorem item_shaped {s : Sky} {x : Item} {d : Nat} (h : okI s d x) (hd : d ≤ 20) : SeqAt.shaped (eItem x) = true := by
  obtain ⟨a, b⟩ := item_lay s x d h
  exact Bool.and_eq_true_iff.mpr ⟨a, decide_eq_true (by omega)⟩

/-! ### items -/
inductive R_is_item (n : Nat) : List PyData → PyData → Prop
  | mk (s : Sky) (x : Item) (d : Nat) (deep : Int) : s.ok → okI s d x → d + 1 ≤ n → n ≤ 8 → (d : Int) ≤ deep → R_is_item n [eSky s, eItem x, .int deep] (.bool true)
inductive R_are_items (n : Nat) : List PyData → PyData → Prop
  | mk (s : Sky) (xs : List Item) (d : Nat) (deep : Int) : s.ok → okL s d xs → xs.length ≤ 8 → d + 1 ≤ n → n ≤ 8 → (d : Int) ≤ deep → R_are_items n [eSky s, eItemsT xs, .int deep] (.bool true)
theorem eq_nil_no (a : PyData) (r : List PyData) : PyData.eqv (.tuple (a :: r)) (.tuple []) = false := rfl
theorem item_nil (x : Item) : PyData.eqv (eItem x) (.tuple []) = false := by cases x <;> rfl
theorem item_tup (x : Item) : ∃ w r, eItem x = .tuple (.str w :: r) := by cases x <;> exact ⟨_, _, rfl⟩
theorem st_is_item {P : Program} {w : World} {K : PySem.W.Frag} {mg : Str → Option Value} {base : Heap} (T : Txt K mg) {n k : Nat} (hk : 2 ≤ k) (G_is_among : Gd_is_among P w K mg base) (G_are_items : Good P w K mg base k "are_items" ["sky", "thing", "deep"] (spP K (R_are_items n))) :
    Good P w K mg base (k + 1) "is_item" ["sky", "thing", "deep"] (spP K (R_is_item (n + 1))) := by
  refine Good.of T.f_is_item sc_is_item (fun _ _ _ _ _ _ us hl => match us, hl with | [_, _, _], _ => rfl) (spP_len fun ds d hR => by cases hR <;> rfl) fun cdv A outer s H vs Q E hr h => ?_
  refine ⟨_, (pss_cons (ps_if (PW.pt (pw_or (pt_not (pt_val (pe_callB call_isi rfl (T.b_isinstance) (by decide +kernel) (pa_cons (pv 1) (pa_cons (pe_bltn (v := .ty "tuple") rfl (T.b_tuple) (by decide +kernel) rfl) pa_nil))))) (pw_or (pt_cmpR (op_eqD hr.units) (pv 1) (pe_tup pa_nil) (nomark _)) (pw_or1 (pt_not (pt_val (pe_callB call_isi rfl (T.b_isinstance) (by decide +kernel) (pa_cons (pe_ix (show IxR _ (rIxT K) from ix_tup) (pv 1) pe_int (fun _ _ => rfl)) (pa_cons (pe_bltn (v := .ty "str") rfl (T.b_str) (by decide +kernel) rfl) pa_nil))))))))) (pss_one (ps_ret pe_bl)) pss_nil)
    (pss_cons (ps_if (pt_cmpR op_eq (pe_ix (show IxR _ (rIxT K) from ix_tup) (pv 1) pe_int (fun _ _ => rfl)) pe_str (nomark _)) (pss_one (ps_ret (pe_and (pe_cmpR op_eq (pe_callB (show CallR _ (.builtin "len") (rLenQ K) from call_len_seq) rfl (T.b_len) (by decide +kernel) (pa_cons (pv 1) pa_nil)) pe_int (nomark _)) (pe_one (pe_callB (cr_all rfl) rfl (T.b_all) (by decide +kernel) (pa_cons (pe_lc rfl sc_is_item.nd (pi_tup (pe_slice sl_tupA (pv 1) (po_some pe_int) po_none)) (blkOk_by (own := [("one", 3)]) (N := N_is_item) (sc := defScope s_is_item) (by decide +kernel)) (fun _ _ _ _ _ => (pg_name (i := 3) sc_is_item.nd rfl (.inl rfl))) (fun _ _ _ _ _ => pts_nil) (fun _ _ _ _ _ => (pe_g G_is_among (hr.mono (by omega)) (pa_cons (pv 3) (pa_cons (pe_op op_sub pe_int (pe_gi (T.i_MOST_GO))) (pa_cons (pe_gi (T.i_MOST_GO)) pa_nil)))))) pa_nil)))))) pss_nil)
    (pss_cons (ps_if (pt_cmpR op_eq (pe_ix (show IxR _ (rIxT K) from ix_tup) (pv 1) pe_int (fun _ _ => rfl)) pe_str (nomark _)) (pss_one (ps_ret (pe_and (pe_cmpR op_eq (pe_callB (show CallR _ (.builtin "len") (rLenQ K) from call_len_seq) rfl (T.b_len) (by decide +kernel) (pa_cons (pv 1) pa_nil)) pe_int (nomark _)) (pe_one (pe_g G_is_among (hr.mono (by omega)) (pa_cons (pe_ix (show IxR _ (rIxT K) from ix_tup) (pv 1) pe_int (fun _ _ => rfl)) (pa_cons pe_int (pa_cons (pe_op op_sub (pe_callB (show CallR _ (.builtin "len") (rLenQ K) from call_len_seq) rfl (T.b_len) (by decide +kernel) (pa_cons (pe_ix (show IxR _ (rIxT K) from ix_tup) (pv 0) pe_int (fun _ _ => rfl)) pa_nil)) pe_int) pa_nil)))))))) pss_nil)
    (pss_cons (ps_if (pt_cmpR op_eq (pe_ix (show IxR _ (rIxT K) from ix_tup) (pv 1) pe_int (fun _ _ => rfl)) (pe_gs (T.s_AGAIN)) (nomark _)) (pss_one (ps_ret (pe_and (pe_cmpR op_eq (pe_callB (show CallR _ (.builtin "len") (rLenQ K) from call_len_seq) rfl (T.b_len) (by decide +kernel) (pa_cons (pv 1) pa_nil)) pe_int (nomark _)) (pe_and (pe_cmpR op_gt (pv 2) pe_int (nomark _)) (pe_and (pe_g G_is_among (hr.mono (by omega)) (pa_cons (pe_ix (show IxR _ (rIxT K) from ix_tup) (pv 1) pe_int (fun _ _ => rfl)) (pa_cons pe_int (pa_cons (pe_gi (T.i_MOST_TIMES)) pa_nil)))) (pe_one (pe_g G_are_items (hr.mono (by omega)) (pa_cons (pv 0) (pa_cons (pe_ix (show IxR _ (rIxT K) from ix_tup) (pv 1) pe_int (fun _ _ => rfl)) (pa_cons (pe_op op_sub (pv 2) pe_int) pa_nil)))))))))) pss_nil)
    (pss_one (ps_ret (pe_cmpR (op_eqD hr.units) (pv 1) (pe_tup (pa_cons pe_str pa_nil)) (nomark _)))))))), ?_⟩
  obtain ⟨ds, d, ha, hR, hq⟩ := h
  cases hR with
  | mk s x d deep hs hx hd hn hp =>
  obtain ⟨v1, v2, v3, rfl, h1, h2, h3⟩ := ha.c3
  have sh := item_shaped hx (by omega)
  obtain ⟨x0, xr, ex⟩ := item_tup x
  have h2t : Dt K H v2 (.tuple (.str x0 :: xr)) := by rw [← ex]; exact h2
  refine sq_no (eb_or (a := false) (b := false) (eb_not (a := true) (eb_val (ed_isiTup (ed_var rfl h2t)))) fun _ => eb_or (a := false) (b := false) (eb_is (eb_val (ed_eqD (ed_var rfl h2) (ed_tup ea_nil) sh rfl)) (item_nil x)) fun _ => eb_not (a := true) (eb_val (ed_isiStr (ed_ix (ed_var rfl h2t) ed_int (at_nat (j := 0) rfl rfl))))) fun H1 e1 => ?_
  have h1 := h1.ex e1
  have h2 := h2.ex e1
  have h3 := h3.ex e1
  clear h2t ex
  cases x with
  | go m e n' =>
    unfold okI at hx
    obtain ⟨g1, g2, g3, g4, g5, g6⟩ := hx
    refine sq_ifN (b := true) (eb_s (ed_ix (ed_var rfl h2) ed_int rfl)) (fun _ H2 e2 => ?_) (fun z => nomatch z)
    have h2 := h2.ex e2
    refine sd_ret (ed_andB (a := true) (b := true) (ed_eqI (ed_len (ed_var rfl h2)) ed_int) fun _ => ed_allT (xs := [m, e, n']) (el_mapT (enc := .int) (fun _ => .bool true) (ed_is (ed_sl (ed_var rfl h2) (eo_some (K := K) ed_int) eo_none) rfl) (fun _ => rfl) (fun k hk v H1 t kv => ed_call (ea_cons (ed_var rfl kv) (ea_cons (ed_sub ed_int ed_int) (ea_cons ed_int ea_nil))) (among ?_)) (Nat.le_of_ble_eq_true rfl))) fun v H3 e3 => hq v H3 ((e1.trans e2).trans e3)
    rcases List.mem_cons.mp hk with rfl | hk
    · exact ⟨by omega, by omega⟩
    · rcases List.mem_cons.mp hk with rfl | hk
      · exact ⟨by omega, by omega⟩
      · rcases List.mem_cons.mp hk with rfl | hk
        · exact ⟨by omega, by omega⟩
        · nomatch hk
  | flip l =>
    unfold okI at hx
    refine sq_ifN (b := false) (eb_s (ed_ix (ed_var rfl h2) ed_int rfl)) (fun z => nomatch z) fun _ H2 e2 => ?_
    have h1 := h1.ex e2
    have h2 := h2.ex e2
    refine sq_ifN (b := true) (eb_s (ed_ix (ed_var rfl h2) ed_int rfl)) (fun _ H3 e3 => ?_) (fun z => nomatch z)
    have h1 := h1.ex e3
    have h2 := h2.ex e3
    exact sd_ret (ed_andB (a := true) (b := true) (ed_eqI (ed_len (ed_var rfl h2)) ed_int) fun _ => ed_call (ea_cons (ed_ix (ed_var rfl h2) ed_int rfl) (ea_cons ed_int (ea_cons (ed_sub (ed_len (ed_ix (ed_var rfl h1) ed_int rfl)) ed_int) ea_nil))) (among (by rw [List.length_map]; exact hx))) fun v H4 e4 => hq v H4 (((e1.trans e2).trans e3).trans e4)
  | mark =>
    refine sq_ifN (b := false) (eb_s (ed_ix (ed_var rfl h2) ed_int rfl)) (fun z => nomatch z) fun _ H2 e2 => ?_
    have h2 := h2.ex e2
    refine sq_ifN (b := false) (eb_s (ed_ix (ed_var rfl h2) ed_int rfl)) (fun z => nomatch z) fun _ H3 e3 => ?_
    have h2 := h2.ex e3
    refine sq_ifN (b := false) (eb_s (ed_ix (ed_var rfl h2) ed_int rfl)) (fun z => nomatch z) fun _ H4 e4 => ?_
    have h2 := h2.ex e4
    exact sd_ret (ed_is (ed_eqD (ed_var rfl h2) (ed_tup (ea_cons ed_str ea_nil)) sh (by decide +kernel)) (show _ = PyData.bool true from congrArg PyData.bool (by decide +kernel))) fun v H5 e5 => hq v H5 ((((e1.trans e2).trans e3).trans e4).trans e5)
  | again t xs =>
    cases d with
    | zero => unfold okI at hx; exact hx.elim
    | succ d =>
    unfold okI at hx
    obtain ⟨g1, g2, g3, g4⟩ := hx
    refine sq_ifN (b := false) (eb_s (ed_ix (ed_var rfl h2) ed_int rfl)) (fun z => nomatch z) fun _ H2 e2 => ?_
    have h2 := h2.ex e2
    refine sq_ifN (b := false) (eb_s (ed_ix (ed_var rfl h2) ed_int rfl)) (fun z => nomatch z) fun _ H3 e3 => ?_
    have h2 := h2.ex e3
    refine sq_ifN (b := true) (eb_s (ed_ix (ed_var rfl h2) ed_int rfl)) (fun _ H4 e4 => ?_) (fun z => nomatch z)
    have h2 := h2.ex e4
    have h1 := ((h1.ex e2).ex e3).ex e4
    have h3 := ((h3.ex e2).ex e3).ex e4
    exact sd_ret (ed_andB (a := true) (b := true) (ed_eqI (ed_len (ed_var rfl h2)) ed_int) fun _ => ed_andB (a := true) (b := true) (ed_is (ed_gt (ed_var rfl h3) ed_int) (by rw [decide_eq_true (by omega)])) fun _ => ed_andB (a := true) (b := true) (ed_call (ea_cons (ed_ix (ed_var rfl h2) ed_int rfl) (ea_cons ed_int (ea_cons ed_int ea_nil))) (among ⟨g1, by omega⟩)) fun _ => ed_call (ea_cons (ed_var rfl h1) (ea_cons (ed_ix (ed_var rfl h2) ed_int rfl) (ea_cons (ed_sub (ed_var rfl h3) ed_int) ea_nil))) (.mk s xs d (deep - 1) hs g4 (by omega) (by omega) (by omega) (by omega))) fun v H5 e5 => hq v H5 ((((e1.trans e2).trans e3).trans e4).trans e5)
theorem st_are_items {P : Program} {w : World} {K : PySem.W.Frag} {mg : Str → Option Value} {base : Heap} (T : Txt K mg) {n k : Nat} (hk : 2 ≤ k) (G_is_row : Gd_is_row P w K mg base) (G_is_item : Good P w K mg base k "is_item" ["sky", "thing", "deep"] (spP K (R_is_item n))) :
    Good P w K mg base (k + 1) "are_items" ["sky", "thing", "deep"] (spP K (R_are_items n)) := by
  refine Good.of T.f_are_items sc_are_items (fun _ _ _ _ _ _ us hl => match us, hl with | [_, _, _], _ => rfl) (spP_len fun ds d hR => by cases hR <;> rfl) fun cdv A outer s H vs Q E hr h => ?_
  refine ⟨_, (pss_one (ps_ret (pe_and (pe_g G_is_row (hr.mono (by omega)) (pa_cons (pv 1) (pa_cons pe_int (pa_cons (pe_gi (T.i_MOST_ITEMS)) pa_nil)))) (pe_one (pe_callB (cr_all rfl) rfl (T.b_all) (by decide +kernel) (pa_cons (pe_lc rfl sc_are_items.nd (pi_tup (pv 1)) (blkOk_by (own := [("one", 3)]) (N := N_are_items) (sc := defScope s_are_items) (by decide +kernel)) (fun _ _ _ _ _ => (pg_name (i := 3) sc_are_items.nd rfl (.inl rfl))) (fun _ _ _ _ _ => pts_nil) (fun _ _ _ _ _ => (pe_g G_is_item (hr.mono (by omega)) (pa_cons (pv 0) (pa_cons (pv 3) (pa_cons (pv 2) pa_nil)))))) pa_nil)))))), ?_⟩
  obtain ⟨ds, d, ha, hR, hq⟩ := h
  cases hR with
  | mk s xs d deep hs hx hl hd hn hp =>
  obtain ⟨v1, v2, v3, rfl, h1, h2, h3⟩ := ha.c3
  have em : eItemsT xs = .tuple (xs.map eItem) := by unfold eItemsT; rw [eItems_map]
  rw [em] at h2
  exact sd_ret (ed_andB (a := true) (b := true) (ed_call (ea_cons (ed_var rfl h2) (ea_cons ed_int (ea_cons ed_int ea_nil))) (isRow ⟨by omega, by rw [List.length_map]; omega⟩)) fun _ => ed_allT (el_mapT (fun _ => .bool true) (ed_var rfl h2) (fun _ => rfl) (fun x hm v H1 t kv => ed_call (ea_cons (ed_var rfl (h1.at t)) (ea_cons (ed_var rfl kv) (ea_cons (ed_var rfl (h3.at t)) ea_nil))) (.mk s x d deep hs (okL_mem hx x hm) hd hn hp)) (by omega))) hq
abbrev sp_are_items (K : PySem.W.Frag) : Sp := spP K (R_are_items 4)
abbrev Gd_are_items (P : Program) (w : World) (K : PySem.W.Frag) (mg : Str → Option Value) (base : Heap) : Prop := Good P w K mg base 10 "are_items" ["sky", "thing", "deep"] (sp_are_items K)
theorem ok_are_items {P : Program} {w : World} {K : PySem.W.Frag} {mg : Str → Option Value} {base : Heap} (T : Txt K mg) (G_is_among : Gd_is_among P w K mg base) (G_is_row : Gd_is_row P w K mg base) : Gd_are_items P w K mg base := by
  have z : Good P w K mg base 2 "are_items" ["sky", "thing", "deep"] (spP K (R_are_items 0)) := Good.none T.f_are_items (fun _ _ _ _ _ _ us hl => match us, hl with | [_, _, _], _ => rfl) fun vs H Q E h => by
    obtain ⟨ds, d, _, hR, _⟩ := h
    cases hR with
    | mk s xs d deep _ _ _ hd => omega
  have s1 := st_are_items T (by decide) G_is_row (st_is_item T (by decide) G_is_among z)
  have s2 := st_are_items T (by decide) G_is_row (st_is_item T (by decide) G_is_among s1)
  have s3 := st_are_items T (by decide) G_is_row (st_is_item T (by decide) G_is_among s2)
  exact st_are_items T (by decide) G_is_row (st_is_item T (by decide) G_is_among s3)
end Dome
/-! sizes, sums -/
namespace Dome
open PySem PySem.Spec PyProof.Rows L2 Evl

inductive R_size_of (n : Nat) : List PyData → PyData → Prop
  | mk (s : Sky) (xs : List Item) (d : Nat) : okL s d xs → d + 1 ≤ n → R_size_of n [eItemsT xs] (.int (sizeL xs))
theorem items_get {xs : List Item} {i : Nat} {d : PyData} (h : (eItems xs)[i]? = some d) : ∃ x, xs[i]? = some x ∧ d = eItem x := by
  rw [eItems_map, List.getElem?_map] at h
  cases e : xs[i]? with
  | none => rw [e] at h; cases h
  | some x => rw [e] at h; cases h; exact ⟨x, rfl, rfl⟩
theorem items_len (xs : List Item) : (eItems xs).length = xs.length := by rw [eItems_map, List.length_map]
theorem st_size_of {P : Program} {w : World} {K : PySem.W.Frag} {mg : Str → Option Value} {base : Heap} (T : Txt K mg) {n k : Nat} (G_size_of : Good P w K mg base k "size_of" ["items"] (spP K (R_size_of n))) :
    Good P w K mg base (k + 1) "size_of" ["items"] (spP K (R_size_of (n + 1))) := by
  refine Good.of T.f_size_of sc_size_of (fun _ _ _ _ _ _ us hl => match us, hl with | [_], _ => rfl) (spP_len fun ds d hR => by cases hR <;> rfl) fun cdv A outer s H vs Q E hr h => ?_
  refine ⟨_, (pss_cons (ps_set (i := 1) sc_size_of.nd rfl (.inl rfl) pe_int)
    (pss_cons (ps_for PassesOwn.never rfl (pi_tup (pv 0)) (pg_name (i := 2) sc_size_of.nd rfl (.inl rfl)) (pss_one (ps_if (pt_cmpR op_eq (pe_ix (show IxR _ (rIxT K) from ix_tup) (pv 2) pe_int (fun _ _ => rfl)) (pe_gs (T.s_AGAIN)) (nomark _)) (pss_one (ps_aug (i := 1) sc_size_of.nd rfl (.inl rfl) (pe_op op_mul (pe_ix (show IxR _ (rIxT K) from ix_tup) (pv 2) pe_int (fun _ _ => rfl)) (pe_g G_size_of (hr.mono (by omega)) (pa_cons (pe_ix (show IxR _ (rIxT K) from ix_tup) (pv 2) pe_int (fun _ _ => rfl)) pa_nil))) ip_add)) (pss_one (ps_aug (i := 1) sc_size_of.nd rfl (.inl rfl) (pe_callTy call_int1 rfl (T.b_int) (by decide +kernel) (pa_cons (pe_cmpR op_ne (pe_ix (show IxR _ (rIxT K) from ix_tup) (pv 2) pe_int (fun _ _ => rfl)) pe_str (nomark _)) pa_nil)) ip_add)))))
    (pss_one (ps_ret (pv 1))))), ?_⟩
  obtain ⟨ds, d, ha, hR, hq⟩ := h
  cases hR with
  | mk s xs d hx hd =>
  obtain ⟨v1, rfl, h1⟩ := ha.c1
  refine sq_asg (K := K) ed_int fun x1 H1 e1 k1 => ?_
  cases k1
  have h1 := h1.ex e1
  refine sq_forT (ds := eItems xs) (ed_var rfl h1) fun H2 e2 => ⟨fun i σ' H' => (∃ c, σ' = [some v1, some (.int (sizeL (xs.take i))), c]) ∧ Ex H2 H', ⟨⟨none, rfl⟩, Ex.refl _⟩, fun i σ' H' p => .of p.2, fun i d v σ' H' hi p kv => ?_, fun σ' H' p => ?_⟩
  · obtain ⟨⟨c, rfl⟩, eH⟩ := p
    obtain ⟨x, hxi, rfl⟩ := items_get hi
    have ok := okL_mem hx x (List.mem_of_getElem? hxi)
    have fin : ∀ (b : Int) (H3 : Hp), Ex H' H3 → b = sizeI x → (∃ c, [some v1, some (V.int (sizeL (xs.take i) + b)), some v] = [some v1, some (.int (sizeL (xs.take (i + 1)))), c]) ∧ Ex H2 H3 := fun b H3 e3 eb => by
      rw [eb, ← sizeL_take hxi]
      exact ⟨⟨some v, rfl⟩, eH.trans e3⟩
    cases x with
    | go m e n' => exact sd_if (b := false) (eb_s (ed_ix (ed_var rfl kv) ed_int rfl)) (fun z => nomatch z) fun _ H3 e3 => sd_aug (K := K) (b := 1) rfl (ed_intB (b := true) (ed_is (ed_neS (ed_ix (ed_var rfl (kv.ex e3)) ed_int rfl) ed_str) (congrArg PyData.bool (by decide +kernel)))) fun H4 e4 => fin 1 H4 (e3.trans e4) rfl
    | flip l => exact sd_if (b := false) (eb_s (ed_ix (ed_var rfl kv) ed_int rfl)) (fun z => nomatch z) fun _ H3 e3 => sd_aug (K := K) (b := 1) rfl (ed_intB (b := true) (ed_is (ed_neS (ed_ix (ed_var rfl (kv.ex e3)) ed_int rfl) ed_str) (congrArg PyData.bool (by decide +kernel)))) fun H4 e4 => fin 1 H4 (e3.trans e4) rfl
    | mark => exact sd_if (b := false) (eb_s (ed_ix (ed_var rfl kv) ed_int rfl)) (fun z => nomatch z) fun _ H3 e3 => sd_aug (K := K) (b := 0) rfl (ed_intB (b := false) (ed_is (ed_neS (ed_ix (ed_var rfl (kv.ex e3)) ed_int rfl) ed_str) (congrArg PyData.bool (by decide +kernel)))) fun H4 e4 => fin 0 H4 (e3.trans e4) rfl
    | again t ys =>
      cases d with
      | zero => unfold okI at ok; exact ok.elim
      | succ d =>
      unfold okI at ok
      obtain ⟨g1, g2, g3, g4⟩ := ok
      exact sd_if (b := true) (eb_s (ed_ix (ed_var rfl kv) ed_int rfl)) (fun _ H3 e3 => sd_aug (K := K) (b := t * sizeL ys) rfl (ed_mul (ed_ix (ed_var rfl (kv.ex e3)) ed_int rfl) (ed_call (ea_cons (ed_ix (ed_var rfl (kv.ex e3)) ed_int rfl) ea_nil) (.mk s ys d g4 (by omega))) (.inl ⟨by omega, by omega⟩)) fun H4 e4 => fin _ H4 (e3.trans e4) rfl) (fun z => nomatch z)
  · obtain ⟨⟨c, rfl⟩, eH⟩ := p
    refine sd_ret (d := .int (sizeL xs)) (ed_var rfl ?_) fun v H3 e3 => hq v H3 (((e1.trans e2).trans eH).trans e3)
    rw [items_len, List.take_length]
    exact .int _
abbrev sp_size_of (K : PySem.W.Frag) : Sp := spP K (R_size_of 4)
abbrev Gd_size_of (P : Program) (w : World) (K : PySem.W.Frag) (mg : Str → Option Value) (base : Heap) : Prop := Good P w K mg base 4 "size_of" ["items"] (sp_size_of K)
theorem ok_size_of {P : Program} {w : World} {K : PySem.W.Frag} {mg : Str → Option Value} {base : Heap} (T : Txt K mg) : Gd_size_of P w K mg base := by
  have z : Good P w K mg base 0 "size_of" ["items"] (spP K (R_size_of 0)) := Good.none T.f_size_of (fun _ _ _ _ _ _ us hl => match us, hl with | [_], _ => rfl) fun vs H Q E h => by
    obtain ⟨ds, d, _, hR, _⟩ := h
    cases hR with
    | mk s xs d _ hd => omega
  exact st_size_of T (st_size_of T (st_size_of T (st_size_of T z)))

inductive R_is_scene_by : List PyData → PyData → Prop
  | mk (s : Sky) (xs : List Item) (d : Nat) : s.ok → okL s d xs → xs.length ≤ 8 → d ≤ 3 → R_is_scene_by [eSky s, eItemsT xs] (.bool true)
abbrev sp_is_scene_by (K : PySem.W.Frag) : Sp := spP K R_is_scene_by
theorem p12_le {d : Nat} (h : d ≤ 3) : ((12 ^ d : Nat) : Int) ≤ 1728 := by
  have : d = 0 ∨ d = 1 ∨ d = 2 ∨ d = 3 := by omega
  rcases this with rfl | rfl | rfl | rfl <;> decide
theorem size_small {s : Sky} {xs : List Item} {d : Nat} (h : okL s d xs) (hl : xs.length ≤ 8) (hd : d ≤ 3) : 0 ≤ sizeL xs ∧ sizeL xs ≤ 13824 := by
  obtain ⟨a, b⟩ := sizeL_bd s xs d h
  have p := p12_pos d
  have b2 := len_bd b hl (by omega)
  have := p12_le hd
  exact ⟨a, by omega⟩
theorem sum_small {s : Sky} {xs : List Item} {d : Nat} (h : okL s d xs) (hl : xs.length ≤ 8) (hd : d ≤ 3) : -1368576 ≤ (sums xs).n ∧ (sums xs).n ≤ 1368576 := by
  obtain ⟨a, b⟩ := sumL_bd s xs d zero h
  have z : zero.n = 0 := rfl
  rw [z, Int.sub_zero] at a b
  have p := p12_pos d
  have b2 := len_bd b hl (by omega)
  have a2 := len_bd (a := -(sumL zero xs).n) (n := xs.length) (B := 99 * ((12 ^ d : Nat) : Int)) (by omega) hl (by omega)
  have := p12_le hd
  show -1368576 ≤ (sumL zero xs).n ∧ (sumL zero xs).n ≤ 1368576
  omega
abbrev Gd_is_scene_by (P : Program) (w : World) (K : PySem.W.Frag) (mg : Str → Option Value) (base : Heap) : Prop := Good P w K mg base 11 "is_scene_by" ["sky", "thing"] (sp_is_scene_by K)
theorem ok_is_scene_by {P : Program} {w : World} {K : PySem.W.Frag} {mg : Str → Option Value} {base : Heap} (T : Txt K mg) (G_are_items : Gd_are_items P w K mg base) (G_size_of : Gd_size_of P w K mg base) : Gd_is_scene_by P w K mg base := by
  refine Good.of T.f_is_scene_by sc_is_scene_by (fun _ _ _ _ _ _ us hl => match us, hl with | [_, _], _ => rfl) (spP_len fun ds d hR => by cases hR <;> rfl) fun cdv A outer s H vs Q E hr h => ?_
  refine ⟨_, (pss_one (ps_ret (pe_and (pe_g G_are_items (hr.mono (by omega)) (pa_cons (pv 0) (pa_cons (pv 1) (pa_cons (pe_gi (T.i_MOST_DEEP)) pa_nil)))) (pe_one (pe_cmpR op_le (pe_g G_size_of (hr.mono (by omega)) (pa_cons (pv 1) pa_nil)) (pe_gi (T.i_MOST_BEATS)) (nomark _)))))), ?_⟩
  obtain ⟨ds, d, ha, hR, hq⟩ := h
  cases hR with
  | mk s xs d hs hx hl hd =>
  obtain ⟨v1, v2, rfl, h1, h2⟩ := ha.c2
  have sz := size_small hx hl hd
  exact sd_ret (ed_andB (a := true) (b := true) (ed_call (ea_cons (ed_var rfl h1) (ea_cons (ed_var rfl h2) (ea_cons ed_int ea_nil))) (.mk s xs d 3 hs hx hl (by omega) (by omega) (by omega))) fun _ => ed_is (ed_le (ed_call (ea_cons (ed_var rfl h2) ea_nil) (.mk s xs d hx (by omega))) ed_int) (by rw [decide_eq_true (by omega)])) hq

inductive R_need_scene : List PyData → PyData → Prop
  | mk (s : Sky) (xs : List Item) (d : Nat) : s.ok → okL s d xs → xs.length ≤ 8 → d ≤ 3 → R_need_scene [eSky s, eItemsT xs] .none
abbrev sp_need_scene (K : PySem.W.Frag) : Sp := spP K R_need_scene
abbrev Gd_need_scene (P : Program) (w : World) (K : PySem.W.Frag) (mg : Str → Option Value) (base : Heap) : Prop := Good P w K mg base 12 "need_scene" ["sky", "thing"] (sp_need_scene K)
theorem ok_need_scene {P : Program} {w : World} {K : PySem.W.Frag} {mg : Str → Option Value} {base : Heap} (T : Txt K mg) (G_is_scene_by : Gd_is_scene_by P w K mg base) : Gd_need_scene P w K mg base := by
  refine Good.of T.f_need_scene sc_need_scene (fun _ _ _ _ _ _ us hl => match us, hl with | [_, _], _ => rfl) (spP_len fun ds d hR => by cases hR <;> rfl) fun cdv A outer s H vs Q E hr h => ?_
  refine ⟨_, (pss_one (ps_if (pt_not (pt_val (pe_g G_is_scene_by (hr.mono (by omega)) (pa_cons (pv 0) (pa_cons (pv 1) pa_nil))))) (pss_one ps_never) pss_nil)), ?_⟩
  obtain ⟨ds, d, ha, hR, hq⟩ := h
  cases hR with
  | mk s xs d hs hx hl hd =>
  obtain ⟨v1, v2, rfl, h1, h2⟩ := ha.c2
  exact sd_no (eb_not (a := true) (eb_val (ed_call (ea_cons (ed_var rfl h1) (ea_cons (ed_var rfl h2) ea_nil)) (.mk s xs d hs hx hl hd)))) fun H1 e1 => hq .non H1 e1 .non

inductive R_need_both : List PyData → PyData → Prop
  | mk (s : Sky) (xs : List Item) (d : Nat) : s.ok → okL s d xs → xs.length ≤ 8 → d ≤ 3 → R_need_both [eSky s, eItemsT xs] .none
abbrev sp_need_both (K : PySem.W.Frag) : Sp := spP K R_need_both
abbrev Gd_need_both (P : Program) (w : World) (K : PySem.W.Frag) (mg : Str → Option Value) (base : Heap) : Prop := Good P w K mg base 13 "need_both" ["sky", "scene"] (sp_need_both K)
theorem ok_need_both {P : Program} {w : World} {K : PySem.W.Frag} {mg : Str → Option Value} {base : Heap} (T : Txt K mg) (G_need_sky : Gd_need_sky P w K mg base) (G_need_scene : Gd_need_scene P w K mg base) : Gd_need_both P w K mg base := by
  refine Good.of T.f_need_both sc_need_both (fun _ _ _ _ _ _ us hl => match us, hl with | [_, _], _ => rfl) (spP_len fun ds d hR => by cases hR <;> rfl) fun cdv A outer s H vs Q E hr h => ?_
  refine ⟨_, (pss_cons (ps_expr (pe_g G_need_sky (hr.mono (by omega)) (pa_cons (pv 0) pa_nil)))
    (pss_one (ps_expr (pe_g G_need_scene (hr.mono (by omega)) (pa_cons (pv 0) (pa_cons (pv 1) pa_nil)))))), ?_⟩
  obtain ⟨ds, d, ha, hR, hq⟩ := h
  cases hR with
  | mk s xs d hs hx hl hd =>
  obtain ⟨v1, v2, rfl, h1, h2⟩ := ha.c2
  refine sq_drop (ed_call (ea_cons (ed_var rfl h1) ea_nil) (.mk s hs)) fun H1 e1 => ?_
  exact sd_drop (ed_call (ea_cons (ed_var rfl (h1.ex e1)) (ea_cons (ed_var rfl (h2.ex e1)) ea_nil)) (.mk s xs d hs hx hl hd)) fun H2 e2 => hq .non H2 (e1.trans e2) .non

inductive R_beats_of : List PyData → PyData → Prop
  | mk (s : Sky) (xs : List Item) (d : Nat) : s.ok → okL s d xs → xs.length ≤ 8 → d ≤ 3 → R_beats_of [eSky s, eItemsT xs] (.int (sizeL xs))
abbrev sp_beats_of (K : PySem.W.Frag) : Sp := spP K R_beats_of
abbrev Gd_beats_of (P : Program) (w : World) (K : PySem.W.Frag) (mg : Str → Option Value) (base : Heap) : Prop := Good P w K mg base 14 "beats_of" ["sky", "scene"] (sp_beats_of K)
theorem ok_beats_of {P : Program} {w : World} {K : PySem.W.Frag} {mg : Str → Option Value} {base : Heap} (T : Txt K mg) (G_need_both : Gd_need_both P w K mg base) (G_size_of : Gd_size_of P w K mg base) : Gd_beats_of P w K mg base := by
  refine Good.of T.f_beats_of sc_beats_of (fun _ _ _ _ _ _ us hl => match us, hl with | [_, _], _ => rfl) (spP_len fun ds d hR => by cases hR <;> rfl) fun cdv A outer s H vs Q E hr h => ?_
  refine ⟨_, (pss_cons (ps_expr (pe_g G_need_both (hr.mono (by omega)) (pa_cons (pv 0) (pa_cons (pv 1) pa_nil))))
    (pss_one (ps_ret (pe_g G_size_of (hr.mono (by omega)) (pa_cons (pv 1) pa_nil))))), ?_⟩
  obtain ⟨ds, d, ha, hR, hq⟩ := h
  cases hR with
  | mk s xs d hs hx hl hd =>
  obtain ⟨v1, v2, rfl, h1, h2⟩ := ha.c2
  refine sq_drop (ed_call (ea_cons (ed_var rfl h1) (ea_cons (ed_var rfl h2) ea_nil)) (.mk s xs d hs hx hl hd)) fun H1 e1 => ?_
  exact sd_ret (ed_call (ea_cons (ed_var rfl (h2.ex e1)) ea_nil) (.mk s xs d hx (by omega))) fun v H2 e2 => hq v H2 (e1.trans e2)

/-! ### sums -/
theorem ins_perm (x : Int) : ∀ l, (ins x l).Perm (x :: l)
  | [] => List.Perm.refl _
  | y :: r => by
    unfold ins
    split
    · exact List.Perm.refl _
    · exact ((ins_perm x r).cons y).trans (List.Perm.swap x y r)
theorem isort_perm : ∀ l, (isort l).Perm l
  | [] => List.Perm.refl _
  | x :: r => (ins_perm x (isort r)).trans ((isort_perm r).cons x)
theorem ins_srt (x : Int) : ∀ l : List Int, l.Pairwise (· ≤ ·) → (ins x l).Pairwise (· ≤ ·)
  | [], _ => List.pairwise_singleton _ _
  | y :: r, h => by
    obtain ⟨h1, h2⟩ := List.pairwise_cons.mp h
    unfold ins
    split
    · rename_i q
      refine List.pairwise_cons.mpr ⟨fun z hz => ?_, h⟩
      rcases List.mem_cons.mp hz with rfl | hz
      · exact q
      · exact Int.le_trans q (h1 z hz)
    · rename_i q
      refine List.pairwise_cons.mpr ⟨fun z hz => ?_, ins_srt x r h2⟩
      rcases List.mem_cons.mp ((ins_perm x r).mem_iff.mp hz) with rfl | hz
      · omega
      · exact h1 z hz
theorem isort_srt : ∀ l : List Int, (isort l).Pairwise (· ≤ ·)
  | [] => .nil
  | x :: r => ins_srt x _ (isort_srt r)
theorem isort_uniq {l m : List Int} (h1 : m.Perm l) (h2 : m.Pairwise (· ≤ ·)) : m = isort l :=
  (h1.trans (isort_perm l).symm).eq_of_pairwise (fun x y _ _ a b => by omega) h2 (isort_srt l)
theorem el_sorted {K : PySem.W.Frag} {σ : L2.St} {H : Hp} {ta : TE} {ns : List Int} (h : El K ta σ H (ns.map .int)) (hl : ns.length < 64) : El K (tCB (rSorted K) (tCons ta tNil)) σ H ((isort ns).map .int) := fun H1 e Q q =>
  h H1 e _ fun p xs H2 hp e2 hx kx => by
    have ex := kx.ints
    subst ex
    refine ⟨p, ns, rfl, sq_of hx, hl, fun ns' l h1 h2 hl' => ?_⟩
    have e3 : Ex H2 (upd H2 l (.lst (ns'.map V.int))) := Ex.new hl'
    rw [isort_uniq h1 h2] at e3 ⊢
    exact q l _ _ (fresh_back e2 hl') (e2.trans e3) upd_same (DtA.ofInts _)
theorem unl_len (a b : List Int) : (unl a b).length ≤ a.length + b.length := by
  unfold unl
  rw [(isort_perm _).length_eq]
  have := List.length_filter_le (fun x => decide (x ∈ a) != decide (x ∈ b)) (a ++ b)
  rw [List.length_append] at this
  exact this
inductive R_unlike : List PyData → PyData → Prop
  | mk (a b : List Int) : a.length + b.length < 64 → R_unlike [eL a, eL b] (eL (unl a b))
abbrev sp_unlike (K : PySem.W.Frag) : Sp := spP K R_unlike
abbrev Gd_unlike (P : Program) (w : World) (K : PySem.W.Frag) (mg : Str → Option Value) (base : Heap) : Prop := Good P w K mg base 1 "unlike" ["one", "other"] (sp_unlike K)
theorem ok_unlike {P : Program} {w : World} {K : PySem.W.Frag} {mg : Str → Option Value} {base : Heap} (T : Txt K mg) : Gd_unlike P w K mg base := by
  refine Good.of T.f_unlike sc_unlike (fun _ _ _ _ _ _ us hl => match us, hl with | [_, _], _ => rfl) (spP_len fun ds d hR => by cases hR <;> rfl) fun cdv A outer s H vs Q E hr h => ?_
  refine ⟨_, (pss_one (ps_ret (pe_callTy call_tuple_of rfl (T.b_tuple) (by decide +kernel) (pa_cons (pe_callB cr_sorted rfl (T.b_sorted) (by decide +kernel) (pa_cons (pe_lc rfl sc_unlike.nd (pi_tup (pe_op op_catA (pv 0) (pv 1))) (blkOk_by (own := [("light", 2)]) (N := N_unlike) (sc := defScope s_unlike) (by decide +kernel)) (fun _ _ _ _ _ => (pg_name (i := 2) sc_unlike.nd rfl (.inl rfl))) (fun _ _ _ _ _ => pts_one (pt_cmpR op_ne (pe_cmpR (show OpR _ _ (rIn K false) from op_in_seq) (pv 2) (pv 0) rfl) (pe_cmpR (show OpR _ _ (rIn K false) from op_in_seq) (pv 2) (pv 1) rfl) (nomark _))) (fun _ _ _ _ _ => (pv 2))) pa_nil)) pa_nil)))), ?_⟩
  obtain ⟨ds, d, ha, hR, hq⟩ := h
  cases hR with
  | mk a b hl =>
  obtain ⟨v1, v2, rfl, h1, h2⟩ := ha.c2
  refine sd_ret (ed_tuple (el_sorted (ns := (a ++ b).filter fun x => decide (x ∈ a) != decide (x ∈ b)) (el_mapF (xs := a ++ b) (enc := .int) (fun x => decide (x ∈ a) != decide (x ∈ b)) .int (ed_is (ed_cat (ed_var rfl h1) (ed_var rfl h2) (by rw [List.length_map, List.length_map]; omega)) (by rw [List.map_append])) (fun _ => rfl) (fun x hx v H1 t kv => eb_is (eb_val (ed_neB (ed_in (ed_var rfl kv) (ed_var rfl (h1.at t))) (ed_in (ed_var rfl kv) (ed_var rfl (h2.at t))))) ?_) (fun x hx _ v H1 t kv => ed_var rfl kv) (by rw [List.length_append]; omega)) ?_)) hq
  · cases decide (x ∈ a) <;> cases decide (x ∈ b) <;> rfl
  · have := List.length_filter_le (fun x => decide (x ∈ a) != decide (x ∈ b)) (a ++ b)
    rw [List.length_append] at this
    omega

inductive R_put_on : List PyData → PyData → Prop
  | mk (a b : Stt) : a.hid.length + b.hid.length < 64 → R_put_on [eStt a, eStt b] (eStt (putOn a b))
abbrev sp_put_on (K : PySem.W.Frag) : Sp := spP K R_put_on
abbrev Gd_put_on (P : Program) (w : World) (K : PySem.W.Frag) (mg : Str → Option Value) (base : Heap) : Prop := Good P w K mg base 2 "put_on" ["state", "sums"] (sp_put_on K)
theorem ok_put_on {P : Program} {w : World} {K : PySem.W.Frag} {mg : Str → Option Value} {base : Heap} (T : Txt K mg) (G_unlike : Gd_unlike P w K mg base) : Gd_put_on P w K mg base := by
  refine Good.of T.f_put_on sc_put_on (fun _ _ _ _ _ _ us hl => match us, hl with | [_, _], _ => rfl) (spP_len fun ds d hR => by cases hR <;> rfl) fun cdv A outer s H vs Q E hr h => ?_
  refine ⟨_, (pss_cons (ps_set (i := 2) sc_put_on.nd rfl (.inl rfl) (pe_callTy call_tuple_of rfl (T.b_tuple) (by decide +kernel) (pa_cons (pe_lc rfl sc_put_on.nd (pi_zs rfl (T.b_zip) (pa_cons (pe_slice sl_tupA (pv 0) po_none (po_some pe_int)) (pa_cons (pe_slice sl_tupA (pv 1) po_none (po_some pe_int)) pa_nil))) (blkOk_by (own := [("one", 3), ("more", 4)]) (N := N_put_on) (sc := defScope s_put_on) (by decide +kernel)) (fun _ _ _ _ _ => (show PG _ _ (gTup K 2 (gCons (gName 3) (gCons (gName 4) gNil))) from pg_tup rfl (pgs_cons (pg_name (i := 3) sc_put_on.nd rfl (.inl rfl)) (pgs_cons (pg_name (i := 4) sc_put_on.nd rfl (.inl rfl)) pgs_nil)))) (fun _ _ _ _ _ => pts_nil) (fun _ _ _ _ _ => (pe_op op_add (pv 3) (pv 4)))) pa_nil)))
    (pss_one (ps_ret (pe_op op_catA (pv 2) (pe_tup (pa_cons (pe_g G_unlike (hr.mono (by omega)) (pa_cons (pe_ix (show IxR _ (rIxT K) from ix_tup) (pv 0) pe_int (fun _ _ => rfl)) (pa_cons (pe_ix (show IxR _ (rIxT K) from ix_tup) (pv 1) pe_int (fun _ _ => rfl)) pa_nil))) pa_nil)))))), ?_⟩
  obtain ⟨ds, d, ha, hR, hq⟩ := h
  cases hR with
  | mk a b hl =>
  obtain ⟨v1, v2, rfl, h1, h2⟩ := ha.c2
  refine sq_asg (d := .tuple [.int (a.m + b.m), .int (a.e + b.e), .int (a.n + b.n)]) (ed_tuple (el_is (el_lcS (ds := [.int a.m, .int a.e, .int a.n]) (es := [.int b.m, .int b.e, .int b.n]) (fun _ => true) (fun i => [PyData.int (a.m + b.m), .int (a.e + b.e), .int (a.n + b.n)].getD i .none) (ed_is (ed_sl (ed_var rfl h1) eo_none (eo_some (K := K) ed_int)) rfl) (ed_is (ed_sl (ed_var rfl h2) eo_none (eo_some (K := K) ed_int)) rfl) rfl (Nat.le_of_ble_eq_true rfl) (fun _ _ => rfl) (fun _ _ _ _ _ _ _ _ => eb_yes) fun i hi _ v u H1 t kv ku => ?_) (giv_range _ _))) fun x H1 e1 kx => ?_
  · have : i = 0 ∨ i = 1 ∨ i = 2 := by
      have hi : i < 3 := hi
      omega
    rcases this with rfl | rfl | rfl <;> exact ed_add (ed_var rfl kv) (ed_var rfl ku)
  · have h1 := h1.ex e1
    have h2 := h2.ex e1
    exact sd_ret (ed_cat (ed_var rfl kx) (ed_tup (ea_cons (ed_call (ea_cons (ed_ix (ed_var rfl h1) ed_int rfl) (ea_cons (ed_ix (ed_var rfl h2) ed_int rfl) ea_nil)) (.mk a.hid b.hid hl)) ea_nil))) fun v H2 e2 => hq v H2 (e1.trans e2)

inductive R_often : List PyData → PyData → Prop
  | mk (a : Stt) (t : Int) : -(2 ^ 64) < t → t < 2 ^ 64 → R_often [eStt a, .int t] (eStt (often a t))
abbrev sp_often (K : PySem.W.Frag) : Sp := spP K R_often
abbrev Gd_often (P : Program) (w : World) (K : PySem.W.Frag) (mg : Str → Option Value) (base : Heap) : Prop := Good P w K mg base 1 "often" ["sums", "times"] (sp_often K)
theorem ok_often {P : Program} {w : World} {K : PySem.W.Frag} {mg : Str → Option Value} {base : Heap} (T : Txt K mg) : Gd_often P w K mg base := by
  refine Good.of T.f_often sc_often (fun _ _ _ _ _ _ us hl => match us, hl with | [_, _], _ => rfl) (spP_len fun ds d hR => by cases hR <;> rfl) fun cdv A outer s H vs Q E hr h => ?_
  refine ⟨_, (pss_one (ps_ret (pe_op op_catA (pe_callTy call_tuple_of rfl (T.b_tuple) (by decide +kernel) (pa_cons (pe_lc rfl sc_often.nd (pi_tup (pe_slice sl_tupA (pv 0) po_none (po_some pe_int))) (blkOk_by (own := [("one", 2)]) (N := N_often) (sc := defScope s_often) (by decide +kernel)) (fun _ _ _ _ _ => (pg_name (i := 2) sc_often.nd rfl (.inl rfl))) (fun _ _ _ _ _ => pts_nil) (fun _ _ _ _ _ => (pe_op op_mul (pv 2) (pv 1)))) pa_nil)) (pe_tup (pa_cons (pe_ifExp (pt_cmpR op_eq (pe_op op_mod (pv 1) pe_int) pe_int (nomark _)) (pe_ix (show IxR _ (rIxT K) from ix_tup) (pv 0) pe_int (fun _ _ => rfl)) (pe_tup pa_nil)) pa_nil))))), ?_⟩
  obtain ⟨ds, d, ha, hR, hq⟩ := h
  cases hR with
  | mk a t t1 t2 =>
  obtain ⟨v1, v2, rfl, h1, h2⟩ := ha.c2
  refine sd_ret (ed_cat (ds := [.int (a.m * t), .int (a.e * t), .int (a.n * t)]) (es := [eL (if t % 2 = 1 then a.hid else [])]) (ed_tuple (el_mapT (xs := [a.m, a.e, a.n]) (enc := .int) (fun k => .int (k * t)) (ed_is (ed_sl (ed_var rfl h1) eo_none (eo_some (K := K) ed_int)) rfl) (fun _ => rfl) (fun k hk v H1 tx kv => ed_mul (ed_var rfl kv) (ed_var rfl (h2.at tx)) (.inr ⟨t1, t2⟩)) (Nat.le_of_ble_eq_true rfl))) (ed_tup (ea_cons (ed_if (eb_val (ed_eqI (ed_mod (ed_var rfl h2) ed_int (by decide)) ed_int)) (fun c => ?_) fun c => ?_) ea_nil))) hq
  · rw [if_pos (of_decide_eq_true c)]
    exact ed_ix (ed_var rfl h1) ed_int rfl
  · rw [if_neg (of_decide_eq_false c)]
    exact ed_tup ea_nil
end Dome
/-! sums of items, reach, turns -/
namespace Dome
open PySem PySem.Spec PyProof.Rows L2 Evl

def single (x : Item) : Prop := plainI x ∨ ∃ l, x = .flip l
theorem single_hid {x : Item} (h : single x) : (sumI x).hid.length ≤ 1 := by
  rcases h with h | ⟨l, rfl⟩
  · rw [sumI_plain x h]; exact Nat.zero_le _
  · exact Nat.le_refl _
inductive R_sums_in (n : Nat) : List PyData → PyData → Prop
  | mk (s : Sky) (x : Item) (d : Nat) : okI s d x → single x → d + 1 ≤ n → R_sums_in n [eItem x] (eStt (sumI x))
inductive R_sums_of (n : Nat) : List PyData → PyData → Prop
  | mk (s : Sky) (xs : List Item) (d : Nat) : okL s d xs → plainL xs → d + 1 ≤ n → R_sums_of n [eItemsT xs] (eStt (sums xs))
theorem Txt.zero_dt {K : PySem.W.Frag} {mg : Str → Option Value} (T : Txt K mg) (H : Hp) : Dt K H (.ref (He.ga K "NOTHING")) (eStt Dome.zero) := by
  obtain ⟨b, hb⟩ := T.zero
  obtain ⟨h1, h2⟩ := hb H
  exact .tup h1 (.cons (.int 0) (.cons (.int 0) (.cons (.int 0) (.cons (.tup h2 .nil) .nil))))
theorem st_sums_in {P : Program} {w : World} {K : PySem.W.Frag} {mg : Str → Option Value} {base : Heap} (T : Txt K mg) {n k : Nat} (hk : 2 ≤ k) (G_often : Gd_often P w K mg base) (G_sums_of : Good P w K mg base k "sums_of" ["items"] (spP K (R_sums_of n))) :
    Good P w K mg base (k + 1) "sums_in" ["item"] (spP K (R_sums_in (n + 1))) := by
  refine Good.of T.f_sums_in sc_sums_in (fun _ _ _ _ _ _ us hl => match us, hl with | [_], _ => rfl) (spP_len fun ds d hR => by cases hR <;> rfl) fun cdv A outer s H vs Q E hr h => ?_
  refine ⟨_, (pss_cons (ps_if (pt_cmpR op_eq (pe_ix (show IxR _ (rIxT K) from ix_tup) (pv 0) pe_int (fun _ _ => rfl)) pe_str (nomark _)) (pss_one (ps_ret (pe_op op_catA (pe_slice sl_tupA (pv 0) (po_some pe_int) po_none) (pe_tup (pa_cons (pe_tup pa_nil) pa_nil))))) pss_nil)
    (pss_cons (ps_if (pt_cmpR op_eq (pe_ix (show IxR _ (rIxT K) from ix_tup) (pv 0) pe_int (fun _ _ => rfl)) pe_str (nomark _)) (pss_one (ps_ret (pe_tup (pa_cons pe_int (pa_cons pe_int (pa_cons pe_int (pa_cons (pe_slice sl_tupA (pv 0) (po_some pe_int) po_none) pa_nil))))))) pss_nil)
    (pss_one (ps_ret (pe_ifExp (pt_cmpR op_eq (pe_ix (show IxR _ (rIxT K) from ix_tup) (pv 0) pe_int (fun _ _ => rfl)) (pe_gs (T.s_AGAIN)) (nomark _)) (pe_g G_often (hr.mono (by omega)) (pa_cons (pe_g G_sums_of (hr.mono (by omega)) (pa_cons (pe_ix (show IxR _ (rIxT K) from ix_tup) (pv 0) pe_int (fun _ _ => rfl)) pa_nil)) (pa_cons (pe_ix (show IxR _ (rIxT K) from ix_tup) (pv 0) pe_int (fun _ _ => rfl)) pa_nil))) (pe_glob (v := .ref (He.ga K "NOTHING")) rfl T.nothing rfl)))))), ?_⟩
  obtain ⟨ds, d, ha, hR, hq⟩ := h
  cases hR with
  | mk s x d hx hp hd =>
  obtain ⟨v1, rfl, h1⟩ := ha.c1
  cases x with
  | go m e n' =>
    refine sq_ifN (b := true) (eb_s (ed_ix (ed_var rfl h1) ed_int rfl)) (fun _ H2 e2 => ?_) (fun z => nomatch z)
    have h1 := h1.ex e2
    exact sd_ret (ed_cat (ds := [.int m, .int e, .int n']) (es := [.tuple []]) (ed_is (ed_sl (ed_var rfl h1) (eo_some (K := K) ed_int) eo_none) rfl) (ed_tup (ea_cons (ed_tup ea_nil) ea_nil))) fun v H3 e3 => hq v H3 (e2.trans e3)
  | flip l =>
    refine sq_ifN (b := false) (eb_s (ed_ix (ed_var rfl h1) ed_int rfl)) (fun z => nomatch z) fun _ H2 e2 => ?_
    have h1 := h1.ex e2
    refine sq_ifN (b := true) (eb_s (ed_ix (ed_var rfl h1) ed_int rfl)) (fun _ H3 e3 => ?_) (fun z => nomatch z)
    have h1 := h1.ex e3
    exact sd_ret (ed_tup (ea_cons ed_int (ea_cons ed_int (ea_cons ed_int (ea_cons (d := eL [l]) (ed_is (ed_sl (ed_var rfl h1) (eo_some (K := K) ed_int) eo_none) rfl) ea_nil))))) fun v H4 e4 => hq v H4 ((e2.trans e3).trans e4)
  | mark =>
    refine sq_ifN (b := false) (eb_s (ed_ix (ed_var rfl h1) ed_int rfl)) (fun z => nomatch z) fun _ H2 e2 => ?_
    have h1 := h1.ex e2
    refine sq_ifN (b := false) (eb_s (ed_ix (ed_var rfl h1) ed_int rfl)) (fun z => nomatch z) fun _ H3 e3 => ?_
    have h1 := h1.ex e3
    exact sd_ret (K := K) (d := eStt zero) (ed_if (b := false) (eb_s (ed_ix (ed_var rfl h1) ed_int rfl)) (fun z => nomatch z) fun _ => ed_c fun H => T.zero_dt H) fun v H4 e4 => hq v H4 ((e2.trans e3).trans e4)
  | again t xs =>
    have hp : plainL xs := by
      rcases hp with hp | ⟨l, e⟩
      · unfold plainI at hp; exact hp
      · cases e
    cases d with
    | zero => unfold okI at hx; exact hx.elim
    | succ d =>
    unfold okI at hx
    obtain ⟨g1, g2, g3, g4⟩ := hx
    refine sq_ifN (b := false) (eb_s (ed_ix (ed_var rfl h1) ed_int rfl)) (fun z => nomatch z) fun _ H2 e2 => ?_
    have h1 := h1.ex e2
    refine sq_ifN (b := false) (eb_s (ed_ix (ed_var rfl h1) ed_int rfl)) (fun z => nomatch z) fun _ H3 e3 => ?_
    have h1 := h1.ex e3
    exact sd_ret (K := K) (d := eStt (often (sums xs) t)) (ed_if (b := true) (eb_s (ed_ix (ed_var rfl h1) ed_int rfl)) (fun _ => ed_call (ea_cons (ed_call (ea_cons (ed_ix (ed_var rfl h1) ed_int rfl) ea_nil) (.mk s xs d g4 hp (by omega))) (ea_cons (ed_ix (ed_var rfl h1) ed_int rfl) ea_nil)) (.mk (sums xs) t (by omega) (by omega))) (fun z => nomatch z)) fun v H4 e4 => hq v H4 ((e2.trans e3).trans e4)
theorem sumL_append (f : Stt) : ∀ (xs ys : List Item), sumL f (xs ++ ys) = sumL (sumL f xs) ys := by
  intro xs
  induction xs generalizing f with
  | nil => intro ys; rw [List.nil_append, sumL]
  | cons x r ih => intro ys; rw [List.cons_append, sumL, sumL, ih]
theorem plainL_take {xs : List Item} (h : plainL xs) (i : Nat) : plainL (xs.take i) := by
  induction xs generalizing i with
  | nil => rw [List.take_nil]; exact h
  | cons x r ih =>
    unfold plainL at h
    cases i with
    | zero => rw [List.take_zero]; unfold plainL; trivial
    | succ i => rw [List.take_succ_cons]; unfold plainL; exact ⟨h.1, ih h.2 i⟩
theorem st_sums_of {P : Program} {w : World} {K : PySem.W.Frag} {mg : Str → Option Value} {base : Heap} (T : Txt K mg) {n k : Nat} (hk : 2 ≤ k) (G_put_on : Gd_put_on P w K mg base) (G_sums_in : Good P w K mg base k "sums_in" ["item"] (spP K (R_sums_in n))) :
    Good P w K mg base (k + 1) "sums_of" ["items"] (spP K (R_sums_of n)) := by
  refine Good.of T.f_sums_of sc_sums_of (fun _ _ _ _ _ _ us hl => match us, hl with | [_], _ => rfl) (spP_len fun ds d hR => by cases hR <;> rfl) fun cdv A outer s H vs Q E hr h => ?_
  refine ⟨_, (pss_cons (ps_set (i := 1) sc_sums_of.nd rfl (.inl rfl) (pe_glob (v := .ref (He.ga K "NOTHING")) rfl T.nothing rfl))
    (pss_cons (ps_for PassesOwn.never rfl (pi_tup (pv 0)) (pg_name (i := 2) sc_sums_of.nd rfl (.inl rfl)) (pss_one (ps_set (i := 1) sc_sums_of.nd rfl (.inl rfl) (pe_g G_put_on (hr.mono (by omega)) (pa_cons (pv 1) (pa_cons (pe_g G_sums_in (hr.mono (by omega)) (pa_cons (pv 2) pa_nil)) pa_nil))))))
    (pss_one (ps_ret (pv 1))))), ?_⟩
  obtain ⟨ds, d, ha, hR, hq⟩ := h
  cases hR with
  | mk s xs d hx hp hd =>
  obtain ⟨v1, rfl, h1⟩ := ha.c1
  refine sq_asg (K := K) (ed_c fun H => T.zero_dt H) fun x1 H1 e1 k1 => ?_
  have h1 := h1.ex e1
  refine sq_forT (ds := eItems xs) (ed_var rfl h1) fun H2 e2 => ⟨fun i σ' H' => (∃ u c, σ' = [some v1, some u, c] ∧ Dt K H' u (eStt (sumL zero (xs.take i)))) ∧ Ex H2 H', ⟨⟨x1, none, rfl, k1.ex e2⟩, Ex.refl _⟩, fun i σ' H' p => .of p.2, fun i d v σ' H' hi p kv => ?_, fun σ' H' p => ?_⟩
  · obtain ⟨⟨u, c, rfl, ku⟩, eH⟩ := p
    obtain ⟨x, hxi, rfl⟩ := items_get hi
    have hm := List.mem_of_getElem? hxi
    have ok := okL_mem hx x hm
    have pl := plainL_mem hp x hm
    have h0 : (sumL zero (xs.take i)).hid = [] := sumI_plain.sumL_plain _ zero (plainL_take hp i) rfl
    refine sd_asg (ed_call (ea_cons (ed_var rfl ku) (ea_cons (ed_call (ea_cons (ed_var rfl kv) ea_nil) (.mk s x d ok (.inl pl) hd)) ea_nil)) (.mk _ _ (by rw [h0, sumI_plain x pl]; decide))) fun y H3 e3 ky => ⟨⟨y, some v, rfl, ?_⟩, eH.trans e3⟩
    obtain ⟨hlt, rfl⟩ := List.getElem?_eq_some_iff.mp hxi
    rw [List.take_succ_eq_append_getElem hlt, sumL_append, sumL, sumL]
    exact ky
  · obtain ⟨⟨u, c, rfl, ku⟩, eH⟩ := p
    rw [items_len, List.take_length] at ku
    exact sd_ret (ed_var rfl ku) fun v H3 e3 => hq v H3 (((e1.trans e2).trans eH).trans e3)
abbrev sp_sums_of (K : PySem.W.Frag) : Sp := spP K (R_sums_of 4)
abbrev sp_sums_in (K : PySem.W.Frag) : Sp := spP K (R_sums_in 4)
abbrev Gd_sums_of (P : Program) (w : World) (K : PySem.W.Frag) (mg : Str → Option Value) (base : Heap) : Prop := Good P w K mg base 10 "sums_of" ["items"] (sp_sums_of K)
abbrev Gd_sums_in (P : Program) (w : World) (K : PySem.W.Frag) (mg : Str → Option Value) (base : Heap) : Prop := Good P w K mg base 10 "sums_in" ["item"] (sp_sums_in K)
theorem ok_sums {P : Program} {w : World} {K : PySem.W.Frag} {mg : Str → Option Value} {base : Heap} (T : Txt K mg) (G_put_on : Gd_put_on P w K mg base) (G_often : Gd_often P w K mg base) : Gd_sums_of P w K mg base ∧ Gd_sums_in P w K mg base := by
  have z : Good P w K mg base 2 "sums_of" ["items"] (spP K (R_sums_of 0)) := Good.none T.f_sums_of (fun _ _ _ _ _ _ us hl => match us, hl with | [_], _ => rfl) fun vs H Q E h => by
    obtain ⟨ds, d, _, hR, _⟩ := h
    cases hR with
    | mk s xs d _ _ hd => omega
  have s1 := st_sums_of T (by decide) G_put_on (st_sums_in T (by decide) G_often z)
  have s2 := st_sums_of T (by decide) G_put_on (st_sums_in T (by decide) G_often s1)
  have s3 := st_sums_of T (by decide) G_put_on (st_sums_in T (by decide) G_often s2)
  have i4 := st_sums_in T (by decide) G_often s3
  exact ⟨st_sums_of T (by decide) G_put_on i4, i4.mono (by decide)⟩

/-! ### the first beats -/
mutual
theorem partI_hid : ∀ (x : Item) (b : Int) (f : Stt), single x → (partI x b f).hid.length ≤ f.hid.length
  | .go _ _ _, b, f, _ => by unfold partI; exact Nat.le_refl _
  | .flip _, b, f, _ => by unfold partI; exact Nat.le_refl _
  | .mark, b, f, _ => by unfold partI; exact Nat.le_refl _
  | .again t xs, b, f, h => by
    have hp : plainL xs := by
      rcases h with hp | ⟨l, e⟩
      · unfold plainI at hp; exact hp
      · cases e
    have h1 := partL_hid xs (b % sizeL xs) zero 0 (fun x hx => plainL_mem hp x hx)
    have h2 : (often (sums xs) (b / sizeL xs)).hid = [] := by
      unfold often
      dsimp only
      rw [sums_plain xs hp]
      split <;> rfl
    unfold partI
    have u1 := unl_len (putOn f (often (sums xs) (b / sizeL xs))).hid (partL xs (b % sizeL xs) zero).hid
    have u2 := unl_len f.hid (often (sums xs) (b / sizeL xs)).hid
    rw [h2] at u2
    have e1 : (putOn (putOn f (often (sums xs) (b / sizeL xs))) (partL xs (b % sizeL xs) zero)).hid = unl (putOn f (often (sums xs) (b / sizeL xs))).hid (partL xs (b % sizeL xs) zero).hid := rfl
    have e2 : (putOn f (often (sums xs) (b / sizeL xs))).hid = unl f.hid [] := by
      show unl f.hid (often (sums xs) (b / sizeL xs)).hid = _
      rw [h2]
    rw [e1]
    rw [e2] at u1 ⊢
    have z : zero.hid.length = 0 := rfl
    have u2 : (unl f.hid []).length ≤ f.hid.length + ([] : List Int).length := u2
    rw [List.length_nil] at u2
    omega
theorem partL_hid : ∀ (xs : List Item) (b : Int) (f : Stt) (_ : Nat), (∀ x ∈ xs, plainI x) → (partL xs b f).hid.length ≤ f.hid.length
  | [], b, f, _, _ => by unfold partL; exact Nat.le_refl _
  | x :: r, b, f, q, h => by
    have hx := h x List.mem_cons_self
    have hr := fun y hy => h y (List.mem_cons_of_mem _ hy)
    have u := unl_len f.hid (sumI x).hid
    rw [sumI_plain x hx] at u
    have e : (putOn f (sumI x)).hid = unl f.hid [] := by
      show unl f.hid (sumI x).hid = _
      rw [sumI_plain x hx]
    unfold partL
    split
    · have := partL_hid r (b - sizeI x) (putOn f (sumI x)) q hr
      rw [e] at this
      rw [List.length_nil] at u
      omega
    · split
      · exact partI_hid x b f (.inl hx)
      · exact partL_hid r b f q hr
end
theorem partL_len : ∀ (xs : List Item) (b : Int) (f : Stt), (∀ x ∈ xs, single x) → (partL xs b f).hid.length ≤ f.hid.length + xs.length
  | [], b, f, _ => by unfold partL; exact Nat.le_refl _
  | x :: r, b, f, h => by
    have hx := h x List.mem_cons_self
    have hr := fun y hy => h y (List.mem_cons_of_mem _ hy)
    have u := unl_len f.hid (sumI x).hid
    have s1 := single_hid hx
    have e : (putOn f (sumI x)).hid = unl f.hid (sumI x).hid := rfl
    rw [List.length_cons]
    unfold partL
    split
    · have := partL_len r (b - sizeI x) (putOn f (sumI x)) hr
      rw [e] at this
      omega
    · split
      · have := partI_hid x b f hx
        omega
      · have := partL_len r b f hr
        omega
inductive R_sums_to (n : Nat) : List PyData → PyData → Prop
  | mk (s : Sky) (xs : List Item) (d : Nat) (b : Int) : okL s d xs → (∀ x ∈ xs, single x) → xs.length ≤ 8 → d + 1 ≤ n → n ≤ 4 → b < 2 ^ 62 → R_sums_to n [eItemsT xs, .int b] (eStt (sumsTo xs b))
theorem st_sums_to {P : Program} {w : World} {K : PySem.W.Frag} {mg : Str → Option Value} {base : Heap} (T : Txt K mg) {n k : Nat} (hk : 10 ≤ k) (G_size_of : Gd_size_of P w K mg base) (G_put_on : Gd_put_on P w K mg base) (G_sums_in : Gd_sums_in P w K mg base) (G_often : Gd_often P w K mg base) (G_sums_of : Gd_sums_of P w K mg base)
    (G_sums_to : Good P w K mg base k "sums_to" ["items", "beats"] (spP K (R_sums_to n))) : Good P w K mg base (k + 1) "sums_to" ["items", "beats"] (spP K (R_sums_to (n + 1))) := by
  refine Good.of T.f_sums_to sc_sums_to (fun _ _ _ _ _ _ us hl => match us, hl with | [_, _], _ => rfl) (spP_len fun ds d hR => by cases hR <;> rfl) fun cdv A outer s H vs Q E hr h => ?_
  refine ⟨_, (pss_cons (ps_set (i := 2) sc_sums_to.nd rfl (.inl rfl) (pe_glob (v := .ref (He.ga K "NOTHING")) rfl T.nothing rfl))
    (pss_cons (ps_for PassesOwn.never rfl (pi_tup (pv 0)) (pg_name (i := 3) sc_sums_to.nd rfl (.inl rfl)) (pss_cons (ps_set (i := 4) sc_sums_to.nd rfl (.inl rfl) (pe_g G_size_of (hr.mono (by omega)) (pa_cons (pe_tup (pa_cons (pv 3) pa_nil)) pa_nil)))
    (pss_one (ps_if (pt_cmpR op_le (pv 4) (pv 1) (nomark _)) (pss_one (ps_par (i := 2) (j := 1) rfl sc_sums_to.nd rfl rfl (by decide) rfl rfl (pa_cons (pe_g G_put_on (hr.mono (by omega)) (pa_cons (pv 2) (pa_cons (pe_g G_sums_in (hr.mono (by omega)) (pa_cons (pv 3) pa_nil)) pa_nil))) (pa_cons (pe_op op_sub (pv 1) (pv 4)) pa_nil)) (by rfl))) (pss_one (ps_if (pt_cmpR op_gt (pv 1) pe_int (nomark _)) (pss_cons (ps_set (i := 5) sc_sums_to.nd rfl (.inl rfl) (pe_g G_size_of (hr.mono (by omega)) (pa_cons (pe_ix (show IxR _ (rIxT K) from ix_tup) (pv 3) pe_int (fun _ _ => rfl)) pa_nil)))
    (pss_cons (ps_set (i := 2) sc_sums_to.nd rfl (.inl rfl) (pe_g G_put_on (hr.mono (by omega)) (pa_cons (pv 2) (pa_cons (pe_g G_often (hr.mono (by omega)) (pa_cons (pe_g G_sums_of (hr.mono (by omega)) (pa_cons (pe_ix (show IxR _ (rIxT K) from ix_tup) (pv 3) pe_int (fun _ _ => rfl)) pa_nil)) (pa_cons (pe_op op_fdiv (pv 1) (pv 5)) pa_nil))) pa_nil))))
    (pss_one (ps_ret (pe_g G_put_on (hr.mono (by omega)) (pa_cons (pv 2) (pa_cons (pe_g G_sums_to (hr.mono (by omega)) (pa_cons (pe_ix (show IxR _ (rIxT K) from ix_tup) (pv 3) pe_int (fun _ _ => rfl)) (pa_cons (pe_op op_mod (pv 1) (pv 5)) pa_nil))) pa_nil))))))) pss_nil))))))
    (pss_one (ps_ret (pv 2))))), ?_⟩
  obtain ⟨ds, d, ha, hR, hq⟩ := h
  cases hR with
  | mk s xs d b hx hp hl hd hn hb =>
  obtain ⟨v1, v2, rfl, h1, h2⟩ := ha.c2
  cases h2
  refine sq_asg (K := K) (ed_c fun H => T.zero_dt H) fun x1 H1 e1 k1 => ?_
  have h1 := h1.ex e1
  refine sq_forT (ds := eItems xs) (ed_var rfl h1) fun H2 e2 => ⟨fun i σ' H' => (∃ b' f u c3 c4 c5, σ' = [some v1, some (.int b'), some u, c3, c4, c5] ∧ Dt K H' u (eStt f) ∧ f.hid.length ≤ i ∧ b' < 2 ^ 62 ∧ partL (xs.drop i) b' f = sumsTo xs b) ∧ Ex H2 H', ⟨⟨b, zero, x1, none, none, none, rfl, k1.ex e2, Nat.le_refl 0, hb, rfl⟩, Ex.refl _⟩, fun i σ' H' p => .of p.2, fun i d' v σ' H' hi p kv => ?_, fun σ' H' p => ?_⟩
  · obtain ⟨⟨b', f, u, c3, c4, c5, rfl, ku, hf, hb', ep⟩, eH⟩ := p
    obtain ⟨x, hxi, rfl⟩ := items_get hi
    have hm := List.mem_of_getElem? hxi
    have ok := okL_mem hx x hm
    have sg := hp x hm
    have s1 := single_hid sg
    obtain ⟨hlt, exi⟩ := List.getElem?_eq_some_iff.mp hxi
    rw [List.drop_eq_getElem_cons hlt, exi, partL] at ep
    have okx : okL s d [x] := by unfold okL; exact ⟨ok, by unfold okL; trivial⟩
    have esz : sizeL [x] = sizeI x := by rw [sizeL, sizeL]; omega
    obtain ⟨z0, z1⟩ := sizeI_bd s x d ok
    refine sq_asg (ed_is (ed_call (ds := [eItemsT [x]]) (ea_cons (ed_tup (ea_cons (ed_var rfl kv) ea_nil)) ea_nil) (.mk s [x] d okx (by omega))) (congrArg PyData.int esz)) fun y H3 e3 ky => ?_
    cases ky
    have ku := ku.ex e3
    have kv := kv.ex e3
    refine sd_if (eb_val (K := K) (ed_le (ed_var rfl (.int _)) (ed_var rfl (.int _)))) (fun z H4 e4 => ?_) fun z H4 e4 => ?_
    · rw [if_pos (of_decide_eq_true z)] at ep
      refine sd_par (d1 := eStt (putOn f (sumI x))) (d2 := .int (b' - sizeI x)) (ed_call (ea_cons (ed_var rfl (ku.ex e4)) (ea_cons (ed_call (ea_cons (ed_var rfl (kv.ex e4)) ea_nil) (.mk s x d ok sg (by omega))) ea_nil)) (.mk _ _ (by omega))) (ed_sub (ed_var rfl (.int _)) (ed_var rfl (.int _))) fun v' u' H5 e5 kv' ku' => ?_
      cases ku'
      refine ⟨⟨_, _, v', _, _, _, rfl, kv', ?_, by omega, ep⟩, ((eH.trans e3).trans e4).trans e5⟩
      have := unl_len f.hid (sumI x).hid
      show (unl f.hid (sumI x).hid).length ≤ i + 1
      omega
    · rw [if_neg (of_decide_eq_false z)] at ep
      have z' := of_decide_eq_false z
      refine sd_if (eb_val (K := K) (ed_gt (ed_var rfl (.int _)) ed_int)) (fun g H5 e5 => ?_) fun g H5 e5 => ?_
      · have g' := of_decide_eq_true g
        rw [if_pos g'] at ep
        cases x with
        | go a1 a2 a3 => have : sizeI (.go a1 a2 a3) = 1 := rfl; omega
        | flip a1 => have : sizeI (.flip a1) = 1 := rfl; omega
        | mark => have : sizeI .mark = 0 := rfl; omega
        | again t ys =>
        have pl : plainL ys := by
          rcases sg with hp | ⟨l, e⟩
          · unfold plainI at hp; exact hp
          · cases e
        cases d with
        | zero => unfold okI at ok; exact ok.elim
        | succ d =>
        unfold okI at ok
        obtain ⟨g1, g2, g3, g4⟩ := ok
        have sb := size_small g4 (by omega) (by omega)
        have own : 0 < sizeL ys := by
          rcases Int.lt_or_le 0 (sizeL ys) with h | h
          · exact h
          · have e0 : sizeL ys = 0 := by omega
            have e1 : sizeI (.again t ys) = t * sizeL ys := rfl
            rw [e1, e0, Int.mul_zero] at z'
            omega
        unfold partI at ep
        have ku := (ku.ex e4).ex e5
        have kv := (kv.ex e4).ex e5
        refine sq_asg (ed_call (ea_cons (ed_ix (ed_var rfl kv) ed_int rfl) ea_nil) (.mk s ys d g4 (by omega))) fun o H6 e6 ko => ?_
        cases ko
        have ku := ku.ex e6
        have kv := kv.ex e6
        have q0 : 0 ≤ b' / sizeL ys := Int.ediv_nonneg (by omega) (by omega)
        have q1 : b' / sizeL ys ≤ b' := Int.ediv_le_self _ (by omega)
        have h2 : (often (sums ys) (b' / sizeL ys)).hid = [] := by
          unfold often
          dsimp only
          rw [sums_plain ys pl]
          split <;> rfl
        refine sq_asg (ed_call (ea_cons (ed_var rfl ku) (ea_cons (ed_call (ea_cons (ed_call (ea_cons (ed_ix (ed_var rfl kv) ed_int rfl) ea_nil) (.mk s ys d g4 pl (by omega))) (ea_cons (ed_fdiv (ed_var rfl (.int _)) (ed_var rfl (.int _)) ⟨own, by omega⟩) ea_nil)) (.mk (sums ys) (b' / sizeL ys) (by omega) (by omega))) ea_nil)) (.mk f (often (sums ys) (b' / sizeL ys)) (by rw [h2, List.length_nil]; omega))) fun o H7 e7 ko => ?_
        have kv := kv.ex e7
        have m1 : b' % sizeL ys < sizeL ys := Int.emod_lt_of_pos _ own
        refine sd_ret (ed_call (ea_cons (ed_var rfl ko) (ea_cons (ed_call (ea_cons (ed_ix (ed_var rfl kv) ed_int rfl) (ea_cons (ed_mod (ed_var rfl (.int _)) (ed_var rfl (.int _)) own) ea_nil)) (.mk s ys d (b' % sizeL ys) g4 (fun x hx => .inl (plainL_mem pl x hx)) (by omega) (by omega) (by omega) (by omega))) ea_nil)) (.mk _ (sumsTo ys (b' % sizeL ys)) ?_)) fun v' H8 e8 kv' => hq v' H8 ((((((((e1.trans e2).trans eH).trans e3).trans e4).trans e5).trans e6).trans e7).trans e8) ?_
        · have a1 := unl_len f.hid (often (sums ys) (b' / sizeL ys)).hid
          rw [h2, List.length_nil] at a1
          have a2 := partL_hid ys (b' % sizeL ys) zero 0 (fun x hx => plainL_mem pl x hx)
          show (unl f.hid (often (sums ys) (b' / sizeL ys)).hid).length + (partL ys (b' % sizeL ys) zero).hid.length < 64
          have z : zero.hid.length = 0 := rfl
          rw [h2]
          omega
        · rw [← ep]
          exact kv'
      · rw [if_neg (of_decide_eq_false g)] at ep
        exact ⟨⟨b', f, u, _, _, _, rfl, (ku.ex e4).ex e5, by omega, hb', ep⟩, ((eH.trans e3).trans e4).trans e5⟩
  · obtain ⟨⟨b', f, u, c3, c4, c5, rfl, ku, hf, hb', ep⟩, eH⟩ := p
    rw [items_len, List.drop_length, partL] at ep
    rw [ep] at ku
    exact sd_ret (ed_var rfl ku) fun v H3 e3 => hq v H3 (((e1.trans e2).trans eH).trans e3)
abbrev sp_sums_to (K : PySem.W.Frag) : Sp := spP K (R_sums_to 4)
abbrev Gd_sums_to (P : Program) (w : World) (K : PySem.W.Frag) (mg : Str → Option Value) (base : Heap) : Prop := Good P w K mg base 14 "sums_to" ["items", "beats"] (sp_sums_to K)
theorem ok_sums_to {P : Program} {w : World} {K : PySem.W.Frag} {mg : Str → Option Value} {base : Heap} (T : Txt K mg) (G_size_of : Gd_size_of P w K mg base) (G_put_on : Gd_put_on P w K mg base) (G_sums_in : Gd_sums_in P w K mg base) (G_often : Gd_often P w K mg base) (G_sums_of : Gd_sums_of P w K mg base) : Gd_sums_to P w K mg base := by
  have z : Good P w K mg base 10 "sums_to" ["items", "beats"] (spP K (R_sums_to 0)) := Good.none T.f_sums_to (fun _ _ _ _ _ _ us hl => match us, hl with | [_, _], _ => rfl) fun vs H Q E h => by
    obtain ⟨ds, d, _, hR, _⟩ := h
    cases hR with
    | mk s xs d b _ _ _ hd => omega
  have s1 := st_sums_to T (by decide) G_size_of G_put_on G_sums_in G_often G_sums_of z
  have s2 := st_sums_to T (by decide) G_size_of G_put_on G_sums_in G_often G_sums_of s1
  have s3 := st_sums_to T (by decide) G_size_of G_put_on G_sums_in G_often G_sums_of s2
  exact st_sums_to T (by decide) G_size_of G_put_on G_sums_in G_often G_sums_of s3
end Dome
/-! led, reach, turns -/
namespace Dome
open PySem PySem.Spec PyProof.Rows L2 Evl

structure Fit (s : Sky) (xs : List Item) (d : Nat) : Prop where
  ok : okL s d xs
  sg : ∀ x ∈ xs, single x
  ln : xs.length ≤ 8
  dp : d ≤ 3
inductive R_led_by : List PyData → PyData → Prop
  | mk (s : Sky) (xs : List Item) (d : Nat) (st : Stt) (b : Int) : Fit s xs d → b < 2 ^ 62 → st.hid.length ≤ 50 → R_led_by [eItemsT xs, eStt st, .int b] (eStt (putOn st (sumsTo xs b)))
abbrev sp_led_by (K : PySem.W.Frag) : Sp := spP K R_led_by
abbrev Gd_led_by (P : Program) (w : World) (K : PySem.W.Frag) (mg : Str → Option Value) (base : Heap) : Prop := Good P w K mg base 15 "led_by" ["items", "state", "beats"] (sp_led_by K)
theorem ok_led_by {P : Program} {w : World} {K : PySem.W.Frag} {mg : Str → Option Value} {base : Heap} (T : Txt K mg) (G_put_on : Gd_put_on P w K mg base) (G_sums_to : Gd_sums_to P w K mg base) : Gd_led_by P w K mg base := by
  refine Good.of T.f_led_by sc_led_by (fun _ _ _ _ _ _ us hl => match us, hl with | [_, _, _], _ => rfl) (spP_len fun ds d hR => by cases hR <;> rfl) fun cdv A outer s H vs Q E hr h => ?_
  refine ⟨_, (pss_one (ps_ret (pe_g G_put_on (hr.mono (by omega)) (pa_cons (pv 1) (pa_cons (pe_g G_sums_to (hr.mono (by omega)) (pa_cons (pv 0) (pa_cons (pv 2) pa_nil))) pa_nil))))), ?_⟩
  obtain ⟨ds, d, ha, hR, hq⟩ := h
  cases hR with
  | mk s xs d st b hx hb hl =>
  obtain ⟨v1, v2, v3, rfl, h1, h2, h3⟩ := ha.c3
  refine sd_ret (ed_call (ea_cons (ed_var rfl h2) (ea_cons (ed_call (ea_cons (ed_var rfl h1) (ea_cons (ed_var rfl h3) ea_nil)) (.mk s xs d b hx.ok hx.sg hx.ln (by have := hx.dp; omega) (by omega) hb)) ea_nil)) (.mk st (sumsTo xs b) ?_)) hq
  have := partL_len xs b zero hx.sg
  have z : zero.hid.length = 0 := rfl
  have := hx.ln
  show st.hid.length + (partL xs b zero).hid.length < 64
  omega

inductive R_need_led : List PyData → PyData → Prop
  | mk (s : Sky) (xs : List Item) (d : Nat) (st : Stt) (b : Int) : s.ok → Fit s xs d → st.ok s → st.hid.length ≤ 50 → 0 ≤ b → b ≤ sizeL xs → R_need_led [eSky s, eItemsT xs, eStt st, .int b] .none
abbrev sp_need_led (K : PySem.W.Frag) : Sp := spP K R_need_led
abbrev Gd_need_led (P : Program) (w : World) (K : PySem.W.Frag) (mg : Str → Option Value) (base : Heap) : Prop := Good P w K mg base 14 "need_led" ["sky", "scene", "state", "beats"] (sp_need_led K)
theorem ok_need_led {P : Program} {w : World} {K : PySem.W.Frag} {mg : Str → Option Value} {base : Heap} (T : Txt K mg) (G_need_both : Gd_need_both P w K mg base) (G_need_state : Gd_need_state P w K mg base) (G_is_among : Gd_is_among P w K mg base) (G_size_of : Gd_size_of P w K mg base) : Gd_need_led P w K mg base := by
  refine Good.of T.f_need_led sc_need_led (fun _ _ _ _ _ _ us hl => match us, hl with | [_, _, _, _], _ => rfl) (spP_len fun ds d hR => by cases hR <;> rfl) fun cdv A outer s H vs Q E hr h => ?_
  refine ⟨_, (pss_cons (ps_expr (pe_g G_need_both (hr.mono (by omega)) (pa_cons (pv 0) (pa_cons (pv 1) pa_nil))))
    (pss_cons (ps_expr (pe_g G_need_state (hr.mono (by omega)) (pa_cons (pv 0) (pa_cons (pv 2) pa_nil))))
    (pss_one (ps_if (pt_not (pt_val (pe_g G_is_among (hr.mono (by omega)) (pa_cons (pv 3) (pa_cons pe_int (pa_cons (pe_g G_size_of (hr.mono (by omega)) (pa_cons (pv 1) pa_nil)) pa_nil)))))) (pss_one ps_never) pss_nil)))), ?_⟩
  obtain ⟨ds, d, ha, hR, hq⟩ := h
  cases hR with
  | mk s xs d st b hs hx ht hl b1 b2 =>
  obtain ⟨v1, v2, v3, v4, rfl, h1, h2, h3, h4⟩ := ha.c4
  refine sq_drop (ed_call (ea_cons (ed_var rfl h1) (ea_cons (ed_var rfl h2) ea_nil)) (.mk s xs d hs hx.ok hx.ln hx.dp)) fun H1 e1 => ?_
  have h1 := h1.ex e1
  have h2 := h2.ex e1
  have h3 := h3.ex e1
  have h4 := h4.ex e1
  refine sq_drop (ed_call (ea_cons (ed_var rfl h1) (ea_cons (ed_var rfl h3) ea_nil)) (.mk s st hs ht (by omega))) fun H2 e2 => ?_
  have h2 := h2.ex e2
  have h4 := h4.ex e2
  exact sd_no (eb_not (a := true) (eb_val (K := K) (ed_call (ea_cons (ed_var rfl h4) (ea_cons ed_int (ea_cons (ed_call (ea_cons (ed_var rfl h2) ea_nil) (.mk s xs d hx.ok (by have := hx.dp; omega))) ea_nil))) (among ⟨b1, b2⟩)))) fun H3 e3 => hq .non H3 ((e1.trans e2).trans e3) .non

inductive R_led : List PyData → PyData → Prop
  | mk (s : Sky) (xs : List Item) (d : Nat) (st : Stt) (b : Int) : s.ok → Fit s xs d → st.ok s → st.hid.length ≤ 50 → 0 ≤ b → b ≤ sizeL xs → R_led [eSky s, eItemsT xs, eStt st, .int b] (eStt (putOn st (sumsTo xs b)))
abbrev sp_led (K : PySem.W.Frag) : Sp := spP K R_led
abbrev Gd_led (P : Program) (w : World) (K : PySem.W.Frag) (mg : Str → Option Value) (base : Heap) : Prop := Good P w K mg base 16 "led" ["sky", "scene", "state", "beats"] (sp_led K)
theorem ok_led {P : Program} {w : World} {K : PySem.W.Frag} {mg : Str → Option Value} {base : Heap} (T : Txt K mg) (G_need_led : Gd_need_led P w K mg base) (G_led_by : Gd_led_by P w K mg base) : Gd_led P w K mg base := by
  refine Good.of T.f_led sc_led (fun _ _ _ _ _ _ us hl => match us, hl with | [_, _, _, _], _ => rfl) (spP_len fun ds d hR => by cases hR <;> rfl) fun cdv A outer s H vs Q E hr h => ?_
  refine ⟨_, (pss_cons (ps_expr (pe_g G_need_led (hr.mono (by omega)) (pa_cons (pv 0) (pa_cons (pv 1) (pa_cons (pv 2) (pa_cons (pv 3) pa_nil))))))
    (pss_one (ps_ret (pe_g G_led_by (hr.mono (by omega)) (pa_cons (pv 1) (pa_cons (pv 2) (pa_cons (pv 3) pa_nil))))))), ?_⟩
  obtain ⟨ds, d, ha, hR, hq⟩ := h
  cases hR with
  | mk s xs d st b hs hx ht hl b1 b2 =>
  obtain ⟨v1, v2, v3, v4, rfl, h1, h2, h3, h4⟩ := ha.c4
  refine sq_drop (ed_call (ea_cons (ed_var rfl h1) (ea_cons (ed_var rfl h2) (ea_cons (ed_var rfl h3) (ea_cons (ed_var rfl h4) ea_nil)))) (.mk s xs d st b hs hx ht hl b1 b2)) fun H1 e1 => ?_
  have h2 := h2.ex e1
  have h3 := h3.ex e1
  have h4 := h4.ex e1
  have sz := size_small hx.ok hx.ln hx.dp
  exact sd_ret (ed_call (ea_cons (ed_var rfl h2) (ea_cons (ed_var rfl h3) (ea_cons (ed_var rfl h4) ea_nil))) (.mk s xs d st b hx (by omega) hl)) fun v H2 e2 => hq v H2 (e1.trans e2)

/-! ### reach -/
theorem maxE (i j : Int) : (if j > i then j else i) = max i j := by
  rw [Int.max_def]
  split <;> split <;> omega
theorem minE (i j : Int) : (if j < i then j else i) = min i j := by
  rw [Int.min_def]
  split <;> split <;> omega
inductive R_reach (n : Nat) : List PyData → PyData → Prop
  | mk (s : Sky) (xs : List Item) (d : Nat) : okL s d xs → plainL xs → d + 1 ≤ n → n ≤ 4 → R_reach n [eItemsT xs] (.tuple [.int (reach xs).1, .int (reach xs).2])
theorem st_reach {P : Program} {w : World} {K : PySem.W.Frag} {mg : Str → Option Value} {base : Heap} (T : Txt K mg) {n k : Nat} (hk : 10 ≤ k) (G_sums_in : Gd_sums_in P w K mg base) (G_sums_of : Gd_sums_of P w K mg base)
    (G_reach : Good P w K mg base k "reach" ["items"] (spP K (R_reach n))) : Good P w K mg base (k + 1) "reach" ["items"] (spP K (R_reach (n + 1))) := by
  refine Good.of T.f_reach sc_reach (fun _ _ _ _ _ _ us hl => match us, hl with | [_], _ => rfl) (spP_len fun ds d hR => by cases hR <;> rfl) fun cdv A outer s H vs Q E hr h => ?_
  refine ⟨_, (pss_cons (ps_asg (pe_tup (pa_cons pe_int (pa_cons pe_int (pa_cons pe_int pa_nil)))) (show PG _ _ (gTup K 3 (gCons (gName 1) (gCons (gName 2) (gCons (gName 3) gNil)))) from pg_tup rfl (pgs_cons (pg_name (i := 1) sc_reach.nd rfl (.inl rfl)) (pgs_cons (pg_name (i := 2) sc_reach.nd rfl (.inl rfl)) (pgs_cons (pg_name (i := 3) sc_reach.nd rfl (.inl rfl)) pgs_nil)))))
    (pss_cons (ps_for PassesOwn.never rfl (pi_tup (pv 0)) (pg_name (i := 4) sc_reach.nd rfl (.inl rfl)) (pss_cons (ps_if (PW.pt (pw_and (pt_cmpR op_eq (pe_ix (show IxR _ (rIxT K) from ix_tup) (pv 4) pe_int (fun _ _ => rfl)) (pe_gs (T.s_AGAIN)) (nomark _)) (pw_and1 (pt_cmpR op_gt (pe_ix (show IxR _ (rIxT K) from ix_tup) (pv 4) pe_int (fun _ _ => rfl)) pe_int (nomark _))))) (pss_cons (ps_set (i := 5) sc_reach.nd rfl (.inl rfl) (pe_op op_add (pv 3) (pe_op op_mul (pe_op op_sub (pe_ix (show IxR _ (rIxT K) from ix_tup) (pv 4) pe_int (fun _ _ => rfl)) pe_int) (pe_ix (show IxR _ (rIxT K) from ix_tup) (pe_g G_sums_of (hr.mono (by omega)) (pa_cons (pe_ix (show IxR _ (rIxT K) from ix_tup) (pv 4) pe_int (fun _ _ => rfl)) pa_nil)) pe_int (fun _ _ => rfl)))))
    (pss_cons (ps_asg (pe_g G_reach (hr.mono (by omega)) (pa_cons (pe_ix (show IxR _ (rIxT K) from ix_tup) (pv 4) pe_int (fun _ _ => rfl)) pa_nil)) (show PG _ _ (gTup K 2 (gCons (gName 6) (gCons (gName 7) gNil))) from pg_tup rfl (pgs_cons (pg_name (i := 6) sc_reach.nd rfl (.inl rfl)) (pgs_cons (pg_name (i := 7) sc_reach.nd rfl (.inl rfl)) pgs_nil))))
    (pss_one (ps_par (i := 1) (j := 2) rfl sc_reach.nd rfl rfl (by decide) rfl rfl (pa_cons (pe_callB (call_min3 rfl) rfl (T.b_min) (by decide +kernel) (pa_cons (pv 1) (pa_cons (pe_op op_add (pv 3) (pv 6)) (pa_cons (pe_op op_add (pv 5) (pv 6)) pa_nil)))) (pa_cons (pe_callB (call_max3 rfl) rfl (T.b_max) (by decide +kernel) (pa_cons (pv 2) (pa_cons (pe_op op_add (pv 3) (pv 7)) (pa_cons (pe_op op_add (pv 5) (pv 7)) pa_nil)))) pa_nil)) (by rfl))))) pss_nil)
    (pss_cons (ps_aug (i := 3) sc_reach.nd rfl (.inl rfl) (pe_ix (show IxR _ (rIxT K) from ix_tup) (pe_g G_sums_in (hr.mono (by omega)) (pa_cons (pv 4) pa_nil)) pe_int (fun _ _ => rfl)) ip_add)
    (pss_one (ps_par (i := 1) (j := 2) rfl sc_reach.nd rfl rfl (by decide) rfl rfl (pa_cons (pe_callB (call_min2 rfl) rfl (T.b_min) (by decide +kernel) (pa_cons (pv 1) (pa_cons (pv 3) pa_nil))) (pa_cons (pe_callB (call_max2 rfl) rfl (T.b_max) (by decide +kernel) (pa_cons (pv 2) (pa_cons (pv 3) pa_nil))) pa_nil)) (by rfl))))))
    (pss_one (ps_ret (pe_tup (pa_cons (pv 1) (pa_cons (pv 2) pa_nil))))))), ?_⟩
  obtain ⟨ds, d, ha, hR, hq⟩ := h
  cases hR with
  | mk s xs d hx hp hd hn =>
  obtain ⟨v1, rfl, h1⟩ := ha.c1
  refine sq_un3 (K := K) (ed_tup (ea_cons ed_int (ea_cons ed_int (ea_cons ed_int ea_nil)))) fun a1 a2 a3 H1 e1 k1 k2 k3 => ?_
  cases k1; cases k2; cases k3
  have h1 := h1.ex e1
  refine sq_forT (ds := eItems xs) (ed_var rfl h1) fun H2 e2 => ⟨fun i σ' H' => (∃ lo tp he c4 c5 c6 c7, σ' = [some v1, some (.int lo), some (.int tp), some (.int he), c4, c5, c6, c7] ∧ reachL (xs.drop i) (lo, tp, he) = reachL xs (0, 0, 0)) ∧ Ex H2 H', ⟨⟨0, 0, 0, none, none, none, none, rfl, rfl⟩, Ex.refl _⟩, fun i σ' H' p => .of p.2, fun i d' v σ' H' hi p kv => ?_, fun σ' H' p => ?_⟩
  · obtain ⟨⟨lo, tp, he, c4, c5, c6, c7, rfl, ep⟩, eH⟩ := p
    obtain ⟨x, hxi, rfl⟩ := items_get hi
    have hm := List.mem_of_getElem? hxi
    have ok := okL_mem hx x hm
    have pl := plainL_mem hp x hm
    obtain ⟨hlt, exi⟩ := List.getElem?_eq_some_iff.mp hxi
    rw [List.drop_eq_getElem_cons hlt, exi, reachL] at ep
    -- what stands behind the if
    have fin : ∀ (D : Ends) (lo1 tp1 : Int) (c5 c6 c7 : Option V) (H3 : Hp), Ex H' H3 → D.nx = (fun (σ' : L2.St) (H' : Hp) => (∃ lo tp he c4 c5 c6 c7, σ' = [some v1, some (.int lo), some (.int tp), some (.int he), c4, c5, c6, c7] ∧ reachL (xs.drop (i + 1)) (lo, tp, he) = reachL xs (0, 0, 0)) ∧ Ex H2 H') →
        reachI x (lo, tp, he) = (min lo1 (he + (sumI x).n), max tp1 (he + (sumI x).n), he + (sumI x).n) → tSeq (tAug 3 (tOp (rIxT K) (tCall (sp_sums_in K) [] E0 (tCons (tVar 4) tNil)) (tC (.int 2))) (ipI fun i j => i + j)) (tPar 1 2 (tCons (tCB rMin2Q (tCons (tVar 1) (tCons (tVar 3) tNil))) (tCons (tCB rMax2Q (tCons (tVar 2) (tCons (tVar 3) tNil))) tNil))) D [some v1, some (.int lo1), some (.int tp1), some (.int he), some v, c5, c6, c7] H3 := fun D lo1 tp1 c5 c6 c7 H3 e3 eD er => by
      refine sq_aug (K := K) (a := he) (b := (sumI x).n) rfl (ed_ix (ed_call (ea_cons (ed_var rfl (kv.ex e3)) ea_nil) (.mk s x d ok (.inl pl) (by omega))) ed_int rfl) fun H4 e4 => ?_
      refine sd_par (K := K) (ed_min2 (ed_var rfl (.int lo1)) (ed_var rfl (.int _))) (ed_max2 (ed_var rfl (.int tp1)) (ed_var rfl (.int _))) fun y1 y2 H5 e5 k1 k2 => ?_
      cases k1; cases k2
      rw [minE, maxE, eD]
      refine ⟨⟨_, _, _, _, _, _, _, rfl, ?_⟩, ((eH.trans e3).trans e4).trans e5⟩
      rw [← ep, er]
    cases x with
    | go a b c => exact sq_ifN (b := false) (eb_and (a := false) (b := false) (eb_s (ed_ix (ed_var rfl kv) ed_int rfl)) fun e => nomatch e) (fun z => nomatch z) fun _ H3 e3 => fin _ lo tp _ _ _ H3 e3 rfl (by rw [reachI]; exact fun _ _ h => nomatch h)
    | flip l => unfold plainI at pl; exact pl.elim
    | mark => exact sq_ifN (b := false) (eb_and (a := false) (b := false) (eb_s (ed_ix (ed_var rfl kv) ed_int rfl)) fun e => nomatch e) (fun z => nomatch z) fun _ H3 e3 => fin _ lo tp _ _ _ H3 e3 rfl (by rw [reachI]; exact fun _ _ h => nomatch h)
    | again t ys =>
      have pl2 : plainL ys := by unfold plainI at pl; exact pl
      cases d with
      | zero => unfold okI at ok; exact ok.elim
      | succ d =>
      have ok0 := ok
      unfold okI at ok0
      obtain ⟨g1, g2, g3, g4⟩ := ok0
      refine sq_ifN (eb_and (a := true) (b := decide (0 < t)) (eb_s (ed_ix (ed_var rfl kv) ed_int rfl)) fun _ => eb_val (K := K) (ed_gt (ed_ix (ed_var rfl kv) ed_int rfl) ed_int)) (fun z H3 e3 => ?_) fun z H3 e3 => ?_
      · have z0 : t > 0 := of_decide_eq_true (by simpa using z)
        have kv3 := kv.ex e3
        refine sq_asg (K := K) (d := .int (he + (t - 1) * (sums ys).n)) (ed_add (ed_var rfl (.int he)) (ed_mul (ed_sub (ed_ix (ed_var rfl kv3) ed_int rfl) ed_int) (ed_ix (ed_call (ea_cons (ed_ix (ed_var rfl kv3) ed_int rfl) ea_nil) (.mk s ys d g4 pl2 (by omega))) ed_int rfl) (.inl ⟨by omega, by omega⟩))) fun y H4 e4 ky => ?_
        cases ky
        have kv4 := kv3.ex e4
        refine sq_un2 (ed_call (ea_cons (ed_ix (ed_var rfl kv4) ed_int rfl) ea_nil) (.mk s ys d g4 pl2 (by omega) (by omega))) fun y1 y2 H5 e5 k1 k2 => ?_
        cases k1; cases k2
        refine sd_par (K := K) (ed_min3 (ed_var rfl (.int lo)) (ed_add (ed_var rfl (.int he)) (ed_var rfl (.int _))) (ed_add (ed_var rfl (.int _)) (ed_var rfl (.int _)))) (ed_max3 (ed_var rfl (.int tp)) (ed_add (ed_var rfl (.int he)) (ed_var rfl (.int _))) (ed_add (ed_var rfl (.int _)) (ed_var rfl (.int _)))) fun y1 y2 H6 e6 k1 k2 => ?_
        cases k1; cases k2
        refine fin _ _ _ _ _ _ H6 (((e3.trans e4).trans e5).trans e6) rfl ?_
        rw [reachI, if_pos z0]
        rfl
      · have z0 : ¬ t > 0 := of_decide_eq_false (by simpa using z)
        exact fin _ lo tp _ _ _ H3 e3 rfl (by rw [reachI, if_neg z0])
  · obtain ⟨⟨lo, tp, he, c4, c5, c6, c7, rfl, ep⟩, eH⟩ := p
    rw [items_len, List.drop_length, reachL] at ep
    refine sd_ret (K := K) (d := .tuple [.int lo, .int tp]) (ed_tup (ea_cons (ed_var rfl (.int lo)) (ea_cons (ed_var rfl (.int tp)) ea_nil))) fun v H3 e3 kv => hq v H3 (((e1.trans e2).trans eH).trans e3) ?_
    unfold reach
    rw [← ep]
    exact kv
abbrev sp_reach (K : PySem.W.Frag) : Sp := spP K (R_reach 4)
abbrev Gd_reach (P : Program) (w : World) (K : PySem.W.Frag) (mg : Str → Option Value) (base : Heap) : Prop := Good P w K mg base 14 "reach" ["items"] (sp_reach K)
theorem ok_reach {P : Program} {w : World} {K : PySem.W.Frag} {mg : Str → Option Value} {base : Heap} (T : Txt K mg) (G_sums_in : Gd_sums_in P w K mg base) (G_sums_of : Gd_sums_of P w K mg base) : Gd_reach P w K mg base := by
  have z : Good P w K mg base 10 "reach" ["items"] (spP K (R_reach 0)) := Good.none T.f_reach (fun _ _ _ _ _ _ us hl => match us, hl with | [_], _ => rfl) fun vs H Q E h => by
    obtain ⟨ds, d, _, hR, _⟩ := h
    cases hR with
    | mk s xs d _ _ hd => omega
  exact st_reach T (by decide) G_sums_in G_sums_of (st_reach T (by decide) G_sums_in G_sums_of (st_reach T (by decide) G_sums_in G_sums_of (st_reach T (by decide) G_sums_in G_sums_of z)))

/-! ### turns -/
inductive R_common : List PyData → PyData → Prop
  | mk (a b : Nat) : R_common [.int (a : Int), .int (b : Int)] (.int (Nat.gcd a b : Int))
abbrev sp_common (K : PySem.W.Frag) : Sp := spP K R_common
abbrev Gd_common (P : Program) (w : World) (K : PySem.W.Frag) (mg : Str → Option Value) (base : Heap) : Prop := Good P w K mg base 1 "common" ["one", "other"] (sp_common K)
theorem ok_common {P : Program} {w : World} {K : PySem.W.Frag} {mg : Str → Option Value} {base : Heap} (T : Txt K mg) : Gd_common P w K mg base := by
  refine Good.of T.f_common sc_common (fun _ _ _ _ _ _ us hl => match us, hl with | [_, _], _ => rfl) (spP_len fun ds d hR => by cases hR <;> rfl) fun cdv A outer s H vs Q E hr h => ?_
  refine ⟨_, (pss_cons (ps_while PassesOwn.never (pt_cmpR op_gt (pv 1) pe_int (nomark _)) (pss_one (ps_par (i := 0) (j := 1) rfl sc_common.nd rfl rfl (by decide) rfl rfl (pa_cons (pv 1) (pa_cons (pe_op op_mod (pv 0) (pv 1)) pa_nil)) (by rfl))))
    (pss_one (ps_ret (pv 0)))), ?_⟩
  obtain ⟨ds, d, ha, hR, hq⟩ := h
  cases hR with
  | mk a b =>
  obtain ⟨v1, v2, rfl, h1, h2⟩ := ha.c2
  cases h1; cases h2
  refine sq_while (fun m σ' H' => ∃ a' b' : Nat, m = b' ∧ σ' = [some (.int (a' : Int)), some (.int (b' : Int))] ∧ Nat.gcd a' b' = Nat.gcd a b ∧ Ex H H') b ⟨a, b, rfl, rfl, rfl, Ex.refl _⟩ fun m σ' H' hw => ?_
  obtain ⟨a', b', em, rfl, eg, eH⟩ := hw
  refine ⟨decide ((0 : Int) < (b' : Int)), eb_val (K := K) (ed_gt (ed_var rfl (.int _)) ed_int), fun c H1 e1 => ?_, fun c H1 e1 => ?_⟩
  · have c0 := of_decide_eq_true c
    have c1 : 0 < b' := by omega
    refine ⟨fun σ2 H2 => σ2 = [some (.int (b' : Int)), some (.int ((a' % b' : Nat) : Int))] ∧ Ex H H2, fun σ2 H2 hn => ⟨a' % b', by rw [em]; exact Nat.mod_lt _ c1, b', a' % b', rfl, hn.1, ?_, hn.2⟩, ?_⟩
    · rw [← eg, Nat.gcd_comm a' b', Nat.gcd_rec b' a', Nat.gcd_comm]
    · refine sd_par (K := K) (ed_var rfl (.int _)) (ed_mod (ed_var rfl (.int _)) (ed_var rfl (.int _)) c0) fun y1 y2 H2 e2 k1 k2 => ?_
      cases k1; cases k2
      exact ⟨rfl, (eH.trans e1).trans e2⟩
  · have c0 := of_decide_eq_false c
    have c1 : b' = 0 := by omega
    subst c1
    rw [Nat.gcd_zero_right] at eg
    refine sd_ret (K := K) (d := .int (a' : Int)) (ed_var rfl (.int _)) fun v H2 e2 kv => hq v H2 ((eH.trans e1).trans e2) ?_
    rw [← eg]
    exact kv

inductive R_turns_of : List PyData → PyData → Prop
  | mk (s : Sky) : s.ok → R_turns_of [eSky s] (.int (turnsOf s))
abbrev sp_turns_of (K : PySem.W.Frag) : Sp := spP K R_turns_of
def turnsAt (s : Sky) : Nat → Int
  | 0 => (roundOf s : Int)
  | 1 => (roundOf s : Int) * s.wide / (Nat.gcd (roundOf s) s.wide.toNat : Int)
  | _ => turnsOf s
theorem turnsAt2 (s : Sky) : turnsAt s 1 * 2 / (Nat.gcd (turnsAt s 1).toNat 2 : Int) = turnsAt s 2 := by
  unfold turnsAt turnsOf
  dsimp only
  rw [Int.toNat_natCast]
  rfl
abbrev Gd_turns_of (P : Program) (w : World) (K : PySem.W.Frag) (mg : Str → Option Value) (base : Heap) : Prop := Good P w K mg base 7 "turns_of" ["sky"] (sp_turns_of K)
theorem ok_turns_of {P : Program} {w : World} {K : PySem.W.Frag} {mg : Str → Option Value} {base : Heap} (T : Txt K mg) (G_round_of : Gd_round_of P w K mg base) (G_common : Gd_common P w K mg base) : Gd_turns_of P w K mg base := by
  refine Good.of T.f_turns_of sc_turns_of (fun _ _ _ _ _ _ us hl => match us, hl with | [_], _ => rfl) (spP_len fun ds d hR => by cases hR <;> rfl) fun cdv A outer s H vs Q E hr h => ?_
  refine ⟨_, (pss_cons (ps_set (i := 1) sc_turns_of.nd rfl (.inl rfl) (pe_g G_round_of (hr.mono (by omega)) (pa_cons (pv 0) pa_nil)))
    (pss_cons (ps_for PassesOwn.never rfl (pi_tup (pe_tup (pa_cons (pe_ix (show IxR _ (rIxT K) from ix_tup) (pv 0) pe_int (fun _ _ => rfl)) (pa_cons pe_int pa_nil)))) (pg_name (i := 2) sc_turns_of.nd rfl (.inl rfl)) (pss_one (ps_set (i := 1) sc_turns_of.nd rfl (.inl rfl) (pe_op op_fdiv (pe_op op_mul (pv 1) (pv 2)) (pe_g G_common (hr.mono (by omega)) (pa_cons (pv 1) (pa_cons (pv 2) pa_nil)))))))
    (pss_one (ps_ret (pv 1))))), ?_⟩
  obtain ⟨ds, d, ha, hR, hq⟩ := h
  cases hR with
  | mk s hs =>
  obtain ⟨v1, rfl, h1⟩ := ha.c1
  have w1 := hs.w1
  have w2 := hs.w2
  have ew : s.wide = ((s.wide.toNat : Nat) : Int) := by omega
  have rp := round_pos s
  refine sq_asg (ed_call (ea_cons (ed_var rfl h1) ea_nil) (.mk s hs)) fun x1 H1 e1 k1 => ?_
  have h1 := h1.ex e1
  cases k1
  have t1 : 0 ≤ turnsAt s 1 := Int.ediv_nonneg (Int.mul_nonneg (by omega) (by omega)) (by omega)
  refine sq_forT (K := K) (ds := [.int s.wide, .int 2]) (ed_tup (ea_cons (ed_ix (ed_var rfl h1) ed_int rfl) (ea_cons ed_int ea_nil))) fun H2 e2 => ⟨fun i σ' H' => (∃ c, σ' = [some v1, some (.int (turnsAt s i)), c]) ∧ Ex H2 H', ⟨⟨none, rfl⟩, Ex.refl _⟩, fun i σ' H' p => .of p.2, fun i d' v σ' H' hi p kv => ?_, fun σ' H' p => ?_⟩
  · obtain ⟨⟨c, rfl⟩, eH⟩ := p
    have hi2 : i = 0 ∨ i = 1 := by
      have := (List.getElem?_eq_some_iff.mp hi).1
      have : i < 2 := this
      omega
    rcases hi2 with rfl | rfl
    · cases hi
      cases kv
      have g1 : 0 < Nat.gcd (roundOf s) s.wide.toNat := Nat.gcd_pos_of_pos_left _ rp
      have g2 : Nat.gcd (roundOf s) s.wide.toNat ≤ s.wide.toNat := Nat.gcd_le_right _ (by omega)
      refine sd_asg (K := K) (d := .int (turnsAt s 1)) (ed_fdiv (ed_mul (ed_var rfl (.int (turnsAt s 0))) (ed_var rfl (.int s.wide)) (.inr ⟨by omega, by omega⟩)) (ed_call (ds := [.int ((roundOf s : Nat) : Int), .int ((s.wide.toNat : Nat) : Int)]) (ea_cons (ed_var rfl (.int _)) (ea_cons (ed_var rfl (by rw [← ew]; exact .int s.wide)) ea_nil)) (.mk _ _)) ⟨by omega, by omega⟩) fun y H3 e3 ky => ?_
      cases ky
      exact ⟨⟨_, rfl⟩, eH.trans e3⟩
    · cases hi
      cases kv
      have et : turnsAt s 1 = (((turnsAt s 1).toNat : Nat) : Int) := by omega
      have g1 : 0 < Nat.gcd (turnsAt s 1).toNat 2 := Nat.gcd_pos_of_pos_right _ (by decide)
      have g2 : Nat.gcd (turnsAt s 1).toNat 2 ≤ 2 := Nat.gcd_le_right _ (by decide)
      refine sd_asg (K := K) (d := .int (turnsAt s 2)) (ed_is (ed_fdiv (ed_mul (ed_var rfl (.int (turnsAt s 1))) (ed_var rfl (.int 2)) (.inr ⟨by decide, by decide⟩)) (ed_call (ds := [.int (((turnsAt s 1).toNat : Nat) : Int), .int ((2 : Nat) : Int)]) (ea_cons (ed_var rfl (by rw [← et]; exact .int _)) (ea_cons (ed_var rfl (.int 2)) ea_nil)) (.mk _ _)) ⟨by omega, by omega⟩) (congrArg PyData.int (turnsAt2 s))) fun y H3 e3 ky => ?_
      cases ky
      exact ⟨⟨_, rfl⟩, eH.trans e3⟩
  · obtain ⟨⟨c, rfl⟩, eH⟩ := p
    exact sd_ret (d := .int (turnsOf s)) (ed_var rfl (.int (turnsOf s))) fun v H3 e3 => hq v H3 (((e1.trans e2).trans eH).trans e3)

inductive R_turns_near : List PyData → PyData → Prop
  | mk (s : Sky) (t : Int) (xs : List Item) (d : Nat) (north most : Int) : okL s d xs → plainL xs → xs.length ≤ 3 → d ≤ 3 → R_turns_near [eSky s, eItem (.again t xs), .int north, .int most] (.tuple [.int (turnsNear s t xs north most).1, .int (turnsNear s t xs north most).2])
abbrev sp_turns_near (K : PySem.W.Frag) : Sp := spP K R_turns_near
abbrev Gd_turns_near (P : Program) (w : World) (K : PySem.W.Frag) (mg : Str → Option Value) (base : Heap) : Prop := Good P w K mg base 15 "turns_near" ["sky", "again", "north", "most"] (sp_turns_near K)
theorem ok_turns_near {P : Program} {w : World} {K : PySem.W.Frag} {mg : Str → Option Value} {base : Heap} (T : Txt K mg) (G_reach : Gd_reach P w K mg base) (G_sums_of : Gd_sums_of P w K mg base) : Gd_turns_near P w K mg base := by
  refine Good.of T.f_turns_near sc_turns_near (fun _ _ _ _ _ _ us hl => match us, hl with | [_, _, _, _], _ => rfl) (spP_len fun ds d hR => by cases hR <;> rfl) fun cdv A outer s H vs Q E hr h => ?_
  refine ⟨_, (pss_cons (ps_asg (pe_slice sl_tupA (pv 1) (po_some pe_int) po_none) (show PG _ _ (gTup K 2 (gCons (gName 4) (gCons (gName 5) gNil))) from pg_tup rfl (pgs_cons (pg_name (i := 4) sc_turns_near.nd rfl (.inl rfl)) (pgs_cons (pg_name (i := 5) sc_turns_near.nd rfl (.inl rfl)) pgs_nil))))
    (pss_cons (ps_par (i := 6) (j := 7) rfl sc_turns_near.nd rfl rfl (by decide) rfl rfl (pa_cons (pe_ix (show IxR _ (rIxT K) from ix_tup) (pe_g G_sums_of (hr.mono (by omega)) (pa_cons (pv 5) pa_nil)) pe_int (fun _ _ => rfl)) (pa_cons (pe_op op_sub (pe_ix (show IxR _ (rIxT K) from ix_tup) (pv 0) pe_int (fun _ _ => rfl)) pe_int) pa_nil)) (by rfl))
    (pss_cons (ps_asg (pe_g G_reach (hr.mono (by omega)) (pa_cons (pv 5) pa_nil)) (show PG _ _ (gTup K 2 (gCons (gName 8) (gCons (gName 9) gNil))) from pg_tup rfl (pgs_cons (pg_name (i := 8) sc_turns_near.nd rfl (.inl rfl)) (pgs_cons (pg_name (i := 9) sc_turns_near.nd rfl (.inl rfl)) pgs_nil))))
    (pss_cons (ps_if (pt_cmpR op_eq (pv 6) pe_int (nomark _)) (pss_cons (ps_set (i := 10) sc_turns_near.nd rfl (.inl rfl) (pe_and (pe_cmpR op_le (pe_op op_add (pv 2) (pv 8)) (pv 7) (nomark _)) (pe_one (pe_cmpR op_ge (pe_op op_add (pv 2) (pv 9)) (pe_op op_sub pe_int (pv 7)) (nomark _)))))
    (pss_one (ps_ret (pe_tup (pa_cons pe_int (pa_cons (pe_ifExp (pt_val (pv 10)) (pe_callB (call_min2 rfl) rfl (T.b_min) (by decide +kernel) (pa_cons (pv 4) (pa_cons (pv 3) pa_nil))) pe_int) pa_nil)))))) pss_nil)
    (pss_cons (ps_par (i := 11) (j := 12) rfl sc_turns_near.nd rfl rfl (by decide) rfl rfl (pa_cons (pe_op op_sub (pe_op op_sub (pe_op op_sub pe_int (pv 7)) (pv 9)) (pv 2)) (pa_cons (pe_op op_sub (pe_op op_sub (pv 7) (pv 8)) (pv 2)) pa_nil)) (by rfl))
    (pss_cons (ps_if (pt_cmpR op_lt (pv 6) pe_int (nomark _)) (pss_one (ps_par3 (i := 6) (j := 11) (l := 12) rfl sc_turns_near.nd rfl rfl rfl (by decide) (by decide) (by decide) rfl rfl rfl (pa_cons (pe_op op_sub pe_int (pv 6)) (pa_cons (pe_op op_sub pe_int (pv 12)) (pa_cons (pe_op op_sub pe_int (pv 11)) pa_nil))) (by rfl))) pss_nil)
    (pss_one (ps_ret (pe_tup (pa_cons (pe_callB (call_max2 rfl) rfl (T.b_max) (by decide +kernel) (pa_cons pe_int (pa_cons (pe_op op_sub pe_int (pe_op op_fdiv (pe_op op_sub pe_int (pv 11)) (pv 6))) pa_nil))) (pa_cons (pe_callB (call_min2 rfl) rfl (T.b_min) (by decide +kernel) (pa_cons (pv 4) (pa_cons (pe_op op_add (pe_op op_fdiv (pv 12) (pv 6)) pe_int) pa_nil))) pa_nil))))))))))), ?_⟩
  obtain ⟨ds, d, ha, hR, hq⟩ := h
  cases hR with
  | mk s t xs d north most hx hp hl hd =>
  obtain ⟨v1, v2, v3, v4, rfl, h1, h2, h3, h4⟩ := ha.c4
  cases h3; cases h4
  have sb := sum_small hx (by omega) hd
  refine sq_un2 (d1 := .int t) (d2 := eItemsT xs) (ed_is (ed_sl (ed_var rfl h2) (eo_some (K := K) ed_int) eo_none) rfl) fun x1 x2 H1 e1 k1 k2 => ?_
  cases k1
  have h1 := h1.ex e1
  refine sq_par (K := K) (d1 := .int (sums xs).n) (d2 := .int (s.high - 1)) (ed_ix (ed_call (ea_cons (ed_var rfl k2) ea_nil) (.mk s xs d hx hp (by omega))) ed_int rfl) (ed_sub (ed_ix (ed_var rfl h1) ed_int rfl) ed_int) fun x3 x4 H2 e2 k3 k4 => ?_
  cases k3; cases k4
  have k2 := k2.ex e2
  refine sq_un2 (ed_call (ea_cons (ed_var rfl k2) ea_nil) (.mk s xs d hx hp (by omega) (by omega))) fun x5 x6 H3 e3 k5 k6 => ?_
  cases k5; cases k6
  have eT := (e1.trans e2).trans e3
  refine sq_ifN (eb_val (K := K) (ed_eqI (ed_var rfl (.int (sums xs).n)) ed_int)) (fun z H4 e4 => ?_) fun z H4 e4 => ?_
  · have z0 := of_decide_eq_true z
    refine sq_asg (K := K) (ed_andB (ed_le (ed_add (ed_var rfl (.int north)) (ed_var rfl (.int (reach xs).1))) (ed_var rfl (.int (s.high - 1)))) fun _ => ed_ge (ed_add (ed_var rfl (.int north)) (ed_var rfl (.int (reach xs).2))) (ed_sub ed_int (ed_var rfl (.int (s.high - 1))))) fun x7 H5 e5 k7 => ?_
    cases k7
    refine sd_ret (K := K) (ed_tup (ea_cons (ed_int (i := 0)) (ea_cons (d := .int (turnsNear s t xs north most).2) (ed_if (eb_val (K := K) (ed_var rfl (.bl _))) (fun c => ?_) fun c => ?_) ea_nil))) fun v H6 e6 kv => hq v H6 (((eT.trans e4).trans e5).trans e6) ?_
    · have c2 : north + (reach xs).1 ≤ s.high - 1 ∧ 0 - (s.high - 1) ≤ north + (reach xs).2 := by simpa using c
      refine ed_is (ed_min2 (ed_var rfl (.int t)) (ed_var rfl (.int most))) ?_
      rw [minE]
      unfold turnsNear
      dsimp only
      rw [if_pos z0, if_pos c2]
    · have c2 : ¬ (north + (reach xs).1 ≤ s.high - 1 ∧ 0 - (s.high - 1) ≤ north + (reach xs).2) := by
        intro h
        have : (decide (north + (reach xs).1 ≤ s.high - 1) && decide (0 - (s.high - 1) ≤ north + (reach xs).2)) = true := by
          rw [decide_eq_true h.1, decide_eq_true h.2]
          rfl
        rw [this] at c
        cases c
      refine ed_is (ed_int (i := 0)) ?_
      unfold turnsNear
      dsimp only
      rw [if_pos z0, if_neg c2]
    · have e0 : (turnsNear s t xs north most).1 = 0 := by
        unfold turnsNear
        dsimp only
        rw [if_pos z0]
      rw [e0]
      exact kv
  · have z0 := of_decide_eq_false z
    refine sq_par (K := K) (ed_sub (ed_sub (ed_sub ed_int (ed_var rfl (.int (s.high - 1)))) (ed_var rfl (.int (reach xs).2))) (ed_var rfl (.int north))) (ed_sub (ed_sub (ed_var rfl (.int (s.high - 1))) (ed_var rfl (.int (reach xs).1))) (ed_var rfl (.int north))) fun x7 x8 H5 e5 k7 k8 => ?_
    cases k7; cases k8
    refine sq_ifN (eb_val (K := K) (ed_lt (ed_var rfl (.int (sums xs).n)) ed_int)) (fun c H6 e6 => ?_) fun c H6 e6 => ?_
    · have c0 := of_decide_eq_true c
      refine sd_par3 (K := K) (ed_sub ed_int (ed_var rfl (.int (sums xs).n))) (ed_sub ed_int (ed_var rfl (.int (s.high - 1 - (reach xs).1 - north)))) (ed_sub ed_int (ed_var rfl (.int (0 - (s.high - 1) - (reach xs).2 - north)))) fun y1 y2 y3 H7 e7 m1 m2 m3 => ?_
      cases m1; cases m2; cases m3
      refine sd_ret (K := K) (ed_tup (ea_cons (ed_max2 (ed_int (i := 0)) (ed_sub ed_int (ed_fdiv (ed_sub ed_int (ed_var rfl (.int _))) (ed_var rfl (.int (0 - (sums xs).n))) ⟨by omega, by omega⟩))) (ea_cons (ed_min2 (ed_var rfl (.int t)) (ed_add (ed_fdiv (ed_var rfl (.int _)) (ed_var rfl (.int (0 - (sums xs).n))) ⟨by omega, by omega⟩) ed_int)) ea_nil))) fun v H8 e8 kv => hq v H8 (((((eT.trans e4).trans e5).trans e6).trans e7).trans e8) ?_
      rw [maxE, minE] at kv
      unfold turnsNear
      dsimp only
      rw [if_neg z0, if_pos c0]
      exact kv
    · have c0 := of_decide_eq_false c
      refine sd_ret (K := K) (ed_tup (ea_cons (ed_max2 (ed_int (i := 0)) (ed_sub ed_int (ed_fdiv (ed_sub ed_int (ed_var rfl (.int _))) (ed_var rfl (.int (sums xs).n)) ⟨by omega, by omega⟩))) (ea_cons (ed_min2 (ed_var rfl (.int t)) (ed_add (ed_fdiv (ed_var rfl (.int _)) (ed_var rfl (.int (sums xs).n)) ⟨by omega, by omega⟩) ed_int)) ea_nil))) fun v H7 e7 kv => hq v H7 ((((eT.trans e4).trans e5).trans e6).trans e7) ?_
      rw [maxE, minE] at kv
      unfold turnsNear
      dsimp only
      rw [if_neg z0, if_neg c0]
      exact kv
end Dome
/-! bounds of the search -/
namespace Dome
open PySem PySem.Spec PyProof.Rows L2 Evl

/-! ### bounds of the search -/
theorem edv {a b M : Int} (hb : 0 < b) (h1 : -M ≤ a) (h2 : a ≤ M) (hM : 0 ≤ M) : -M ≤ a / b ∧ a / b ≤ M := by
  have e1 : M * 1 ≤ M * b := Int.mul_le_mul_of_nonneg_left (by omega) hM
  refine ⟨?_, ?_⟩
  · refine Int.le_ediv_of_mul_le hb ?_
    rw [Int.neg_mul]
    omega
  · refine Int.ediv_le_of_le_mul hb ?_
    omega
theorem turnsOf_nonneg (s : Sky) (h : 0 ≤ s.wide) : 0 ≤ turnsOf s := by
  unfold turnsOf
  dsimp only
  refine Int.ediv_nonneg (Int.mul_nonneg (Int.ediv_nonneg (Int.mul_nonneg (by omega) h) (by omega)) (by decide)) (by omega)
mutual
theorem reachI_bd (s : Sky) : ∀ (x : Item) (d : Nat) (lo tp he h M : Int), okI s d x → -M ≤ lo → lo ≤ M → -M ≤ tp → tp ≤ M → -h ≤ he → he ≤ h → h + 198 * ((12 ^ d : Nat) : Int) ≤ M →
    ∃ lo' tp' he', reachI x (lo, tp, he) = (lo', tp', he') ∧ -M ≤ lo' ∧ lo' ≤ M ∧ -M ≤ tp' ∧ tp' ≤ M ∧ -(h + 99 * ((12 ^ d : Nat) : Int)) ≤ he' ∧ he' ≤ h + 99 * ((12 ^ d : Nat) : Int)
  | .go a b c, d, lo, tp, he, h, M, ok, l1, l2, t1, t2, h1, h2, hM => by
    obtain ⟨s1, s2⟩ := sumI_bd s (.go a b c) d ok
    have p := p12_pos d
    exact ⟨_, _, _, rfl, by omega, by omega, by omega, by omega, by omega, by omega⟩
  | .flip l, d, lo, tp, he, h, M, ok, l1, l2, t1, t2, h1, h2, hM => by
    obtain ⟨s1, s2⟩ := sumI_bd s (.flip l) d ok
    have p := p12_pos d
    exact ⟨_, _, _, rfl, by omega, by omega, by omega, by omega, by omega, by omega⟩
  | .mark, d, lo, tp, he, h, M, ok, l1, l2, t1, t2, h1, h2, hM => by
    obtain ⟨s1, s2⟩ := sumI_bd s .mark d ok
    have p := p12_pos d
    exact ⟨_, _, _, rfl, by omega, by omega, by omega, by omega, by omega, by omega⟩
  | .again t ys, 0, lo, tp, he, h, M, ok, l1, l2, t1, t2, h1, h2, hM => by unfold okI at ok; exact ok.elim
  | .again t ys, d + 1, lo, tp, he, h, M, ok, l1, l2, t1, t2, h1, h2, hM => by
    obtain ⟨s1, s2⟩ := sumI_bd s (.again t ys) (d + 1) ok
    unfold okI at ok
    obtain ⟨g1, g2, g3, g4⟩ := ok
    have p := p12_pos d
    rw [p12_succ] at s1 s2 hM ⊢
    have q0 : (ys.length : Int) * (99 * ((12 ^ d : Nat) : Int)) ≤ ((3 : Nat) : Int) * (99 * ((12 ^ d : Nat) : Int)) := Int.mul_le_mul_of_nonneg_right (by omega) (by omega)
    obtain ⟨lo', tp', he', e, r1, r2, r3, r4, _, _⟩ := reachL_bd s ys d 0 0 0 0 (396 * ((12 ^ d : Nat) : Int)) g4 (by omega) (by omega) (by omega) (by omega) (by omega) (by omega) (by omega)
    have hn : (sumI (.again t ys)).n = (sums ys).n * t := rfl
    obtain ⟨u1, u2⟩ := sumL_bd s ys d zero g4
    have z : zero.n = 0 := rfl
    rw [z, Int.sub_zero] at u1 u2
    have hs : (sums ys).n = (sumL zero ys).n := rfl
    rw [← hs] at u1 u2
    rw [reachI]
    split
    · rename_i ht
      have f1 := mul_bd (t := t - 1) (a := (sums ys).n) (B := 297 * ((12 ^ d : Nat) : Int)) (by omega) (by omega) (by omega) (by omega)
      have f2 : -(3 * (297 * ((12 ^ d : Nat) : Int))) ≤ (t - 1) * (sums ys).n ∧ (t - 1) * (sums ys).n ≤ 3 * (297 * ((12 ^ d : Nat) : Int)) := by
        have : t - 1 = 0 ∨ t - 1 = 1 ∨ t - 1 = 2 ∨ t - 1 = 3 := by omega
        rcases this with e | e | e | e <;> rw [e] <;> omega
      rw [e]
      dsimp only
      exact ⟨_, _, _, rfl, by omega, by omega, by omega, by omega, by omega, by omega⟩
    · exact ⟨_, _, _, rfl, by omega, by omega, by omega, by omega, by omega, by omega⟩
theorem reachL_bd (s : Sky) : ∀ (xs : List Item) (d : Nat) (lo tp he h M : Int), okL s d xs → -M ≤ lo → lo ≤ M → -M ≤ tp → tp ≤ M → -h ≤ he → he ≤ h → h + (xs.length : Int) * (99 * ((12 ^ d : Nat) : Int)) + 99 * ((12 ^ d : Nat) : Int) ≤ M →
    ∃ lo' tp' he', reachL xs (lo, tp, he) = (lo', tp', he') ∧ -M ≤ lo' ∧ lo' ≤ M ∧ -M ≤ tp' ∧ tp' ≤ M ∧ -M ≤ he' ∧ he' ≤ M
  | [], d, lo, tp, he, h, M, ok, l1, l2, t1, t2, h1, h2, hM => by
    have p := p12_pos d
    rw [reachL]
    rw [List.length_nil] at hM
    exact ⟨_, _, _, rfl, l1, l2, t1, t2, by omega, by omega⟩
  | x :: r, d, lo, tp, he, h, M, ok, l1, l2, t1, t2, h1, h2, hM => by
    unfold okL at ok
    have p := p12_pos d
    have e0 : (((x :: r).length : Nat) : Int) * (99 * ((12 ^ d : Nat) : Int)) = (r.length : Int) * (99 * ((12 ^ d : Nat) : Int)) + 99 * ((12 ^ d : Nat) : Int) := by
      rw [List.length_cons, Int.natCast_add, Int.add_mul]
      simp
    rw [e0] at hM
    have n0 : 0 ≤ (r.length : Int) * (99 * ((12 ^ d : Nat) : Int)) := Int.mul_nonneg (by omega) (by omega)
    obtain ⟨lo', tp', he', e, r1, r2, r3, r4, r5, r6⟩ := reachI_bd s x d lo tp he h M ok.1 l1 l2 t1 t2 h1 h2 (by omega)
    rw [reachL, e]
    exact reachL_bd s r d lo' tp' he' (h + 99 * ((12 ^ d : Nat) : Int)) M ok.2 r1 r2 r3 r4 r5 r6 (by omega)
end
theorem reach_bd {s : Sky} {xs : List Item} {d : Nat} (ok : okL s d xs) (hl : xs.length ≤ 3) (hd : d ≤ 3) : -684288 ≤ (reach xs).1 ∧ (reach xs).1 ≤ 684288 ∧ -684288 ≤ (reach xs).2 ∧ (reach xs).2 ≤ 684288 := by
  have p := p12_pos d
  have q := p12_le hd
  have q0 : (xs.length : Int) * (99 * ((12 ^ d : Nat) : Int)) ≤ ((3 : Nat) : Int) * (99 * ((12 ^ d : Nat) : Int)) := Int.mul_le_mul_of_nonneg_right (by omega) (by omega)
  obtain ⟨lo', tp', he', e, r1, r2, r3, r4, _, _⟩ := reachL_bd s xs d 0 0 0 0 (396 * ((12 ^ d : Nat) : Int)) ok (by omega) (by omega) (by omega) (by omega) (by omega) (by omega) (by omega)
  unfold reach
  rw [e]
  dsimp only
  omega
theorem near_bd {s : Sky} {t : Int} {xs : List Item} {d : Nat} {north : Int} (hs : s.ok) (ok : okL s d xs) (hl : xs.length ≤ 3) (hd : d ≤ 3) (t0 : 0 ≤ t) (t4 : t ≤ 4) (n1 : -10000000 ≤ north) (n2 : north ≤ 10000000) :
    0 ≤ (turnsNear s t xs north (turnsOf s)).1 ∧ (turnsNear s t xs north (turnsOf s)).1 ≤ 100000000 ∧ -100000000 ≤ (turnsNear s t xs north (turnsOf s)).2 ∧ (turnsNear s t xs north (turnsOf s)).2 ≤ t := by
  obtain ⟨r1, r2, r3, r4⟩ := reach_bd ok hl hd
  have sb := sum_small ok (by omega) hd
  have w1 := hs.w1
  have h1 := hs.h1
  have h2 := hs.h2
  have tn := turnsOf_nonneg s (by omega)
  unfold turnsNear
  dsimp only
  split
  · dsimp only
    split
    · refine ⟨by decide, by decide, by omega, by omega⟩
    · exact ⟨by decide, by decide, by decide, by omega⟩
  · rename_i nz
    split
    · rename_i ng
      have a := edv (a := 0 - (0 - (s.high - 1 - (reach xs).1 - north))) (b := 0 - (sums xs).n) (M := 90000000) (by omega) (by omega) (by omega) (by omega)
      have b := edv (a := 0 - (0 - (s.high - 1) - (reach xs).2 - north)) (b := 0 - (sums xs).n) (M := 90000000) (by omega) (by omega) (by omega) (by omega)
      dsimp only
      omega
    · rename_i ng
      have a := edv (a := 0 - (0 - (s.high - 1) - (reach xs).2 - north)) (b := (sums xs).n) (M := 90000000) (by omega) (by omega) (by omega) (by omega)
      have b := edv (a := s.high - 1 - (reach xs).1 - north) (b := (sums xs).n) (M := 90000000) (by omega) (by omega) (by omega) (by omega)
      dsimp only
      omega

/-! ### the memo's size -/
theorem turnLoop_len {f : Int → Memo → Option Int × Memo} {size : Int} {B : Nat} (h : ∀ k mm, (f k mm).2.length ≤ mm.length + B) : ∀ (n : Nat) (k : Int) (mm : Memo), (turnLoop f size n k mm).2.length ≤ mm.length + n * B
  | 0, k, mm => by unfold turnLoop; simp
  | n + 1, k, mm => by
    have h1 := h k mm
    have e : (n + 1) * B = n * B + B := Nat.succ_mul n B
    rw [turnLoop]
    split
    · rename_i b mm' q
      rw [q] at h1
      dsimp only at h1 ⊢
      have : 0 ≤ n * B := Nat.zero_le _
      omega
    · rename_i mm' q
      rw [q] at h1
      dsimp only at h1
      have h2 := turnLoop_len (size := size) h n (k + 1) mm'
      omega
theorem addK_len (mm : Memo) (k : List Int) : (addK mm k).length ≤ mm.length + 1 := by
  unfold addK
  split
  · omega
  · rw [List.length_append, List.length_singleton]; omega
theorem keyed_len {key : List Int} {f : Memo → Option Int × Memo} {mm : Memo} {B : Nat} (h : (f mm).2.length ≤ mm.length + B) : (keyed key f mm).2.length ≤ mm.length + (B + 1) := by
  unfold keyed
  split
  · dsimp only; omega
  · split
    · rename_i b mm' q
      rw [q] at h
      dsimp only at h ⊢
      omega
    · rename_i mm' q
      rw [q] at h
      have := addK_len mm' key
      dsimp only at h ⊢
      omega
theorem n12_pos (d : Nat) : 1 ≤ 12 ^ d := Nat.pow_pos (by decide)
theorem near_cnt {s : Sky} {t : Int} {xs : List Item} {north most : Int} (t0 : 0 ≤ t) : 0 ≤ (turnsNear s t xs north most).1 ∧ (turnsNear s t xs north most).2 ≤ t := by
  unfold turnsNear
  dsimp only
  split
  · dsimp only
    split
    · omega
    · omega
  · split
    · dsimp only; omega
    · dsimp only; omega
mutual
theorem findI_len (c : Cfg) (s : Sky) : ∀ (x : Item) (d : Nat) (path : List Int) (m e n : Int) (mm : Memo), okI s d x → (findI c x path m e n mm).2.length ≤ mm.length + (12 ^ d - 1)
  | .go a b c', d, path, m, e, n, mm, ok => by
    rw [findI]
    split <;> simp
  | .flip l, d, path, m, e, n, mm, ok => by
    rw [findI]
    simp
  | .mark, d, path, m, e, n, mm, ok => by
    rw [findI]
    simp
  | .again t ys, 0, path, m, e, n, mm, ok => by unfold okI at ok; exact ok.elim
  | .again t ys, d + 1, path, m, e, n, mm, ok => by
    unfold okI at ok
    obtain ⟨g1, g2, g3, g4⟩ := ok
    have p := n12_pos d
    have p2 : 12 ^ (d + 1) = 12 ^ d * 12 := Nat.pow_succ 12 d
    rw [findI]
    split
    · dsimp only; omega
    · obtain ⟨a1, a2⟩ := near_cnt (s := c.sky) (t := t) (xs := ys) (north := n) (most := turnsOf c.sky) g1
      have hn : ((turnsNear c.sky t ys n (turnsOf c.sky)).2 - (turnsNear c.sky t ys n (turnsOf c.sky)).1).toNat ≤ 4 := by omega
      have hB : ys.length * (12 ^ d - 1) ≤ 3 * (12 ^ d - 1) := Nat.mul_le_mul_right _ g3
      have h1 := turnLoop_len (B := 3 * (12 ^ d - 1) + 1) (size := sizeL ys) (f := fun k mm => keyed (c.key path (m + (sums ys).m * k) (e + (sums ys).e * k) (n + (sums ys).n * k)) (findL c ys 0 0 path (m + (sums ys).m * k) (e + (sums ys).e * k) (n + (sums ys).n * k)) mm) (fun k mm => by
        have h2 := findL_len c s ys d 0 0 path (m + (sums ys).m * k) (e + (sums ys).e * k) (n + (sums ys).n * k) mm g4
        exact keyed_len (by omega)) ((turnsNear c.sky t ys n (turnsOf c.sky)).2 - (turnsNear c.sky t ys n (turnsOf c.sky)).1).toNat (turnsNear c.sky t ys n (turnsOf c.sky)).1 mm
      have h3 := Nat.mul_le_mul_right (3 * (12 ^ d - 1) + 1) hn
      omega
theorem findL_len (c : Cfg) (s : Sky) : ∀ (xs : List Item) (d k : Nat) (gone : Int) (path : List Int) (m e n : Int) (mm : Memo), okL s d xs → (findL c xs k gone path m e n mm).2.length ≤ mm.length + xs.length * (12 ^ d - 1)
  | [], d, k, gone, path, m, e, n, mm, ok => by
    rw [findL]
    simp
  | x :: r, d, k, gone, path, m, e, n, mm, ok => by
    unfold okL at ok
    have h1 := findI_len c s x d (path ++ [(k : Int)]) m e n mm ok.1
    have e0 : (x :: r).length * (12 ^ d - 1) = r.length * (12 ^ d - 1) + (12 ^ d - 1) := by rw [List.length_cons, Nat.succ_mul]
    rw [findL]
    split
    · rename_i b mm' q
      rw [q] at h1
      dsimp only at h1 ⊢
      have : 0 ≤ r.length * (12 ^ d - 1) := Nat.zero_le _
      omega
    · rename_i mm' q
      rw [q] at h1
      dsimp only at h1
      have h2 := findL_len c s r d (k + 1) (gone + sizeI x) path (m + (sumI x).m) (e + (sumI x).e) (n + (sumI x).n) mm' ok.2
      omega
end
theorem findIn_len {c : Cfg} {s : Sky} {xs : List Item} {d : Nat} {path : List Int} {m e n : Int} {mm : Memo} (ok : okL s d xs) (hl : xs.length ≤ 3) : (findIn c xs path m e n mm).2.length ≤ mm.length + 3 * 12 ^ d := by
  have h1 := findL_len c s xs d 0 0 path m e n mm ok
  have p := n12_pos d
  have h2 : xs.length * (12 ^ d - 1) ≤ 3 * (12 ^ d - 1) := Nat.mul_le_mul_right _ hl
  have h3 := keyed_len (key := c.key path m e n) (f := findL c xs 0 0 path m e n) (mm := mm) (B := 3 * (12 ^ d - 1)) (by omega)
  unfold findIn
  omega

/-! ### keys -/
def encKey (hid k : List Int) : NestedKey := .tup (k.map .num ++ [.tup (hid.map .num)])
theorem nums_inj : ∀ {a b : List Int}, a.map NestedKey.num = b.map NestedKey.num → a = b
  | [], [], _ => rfl
  | [], _ :: _, h => nomatch h
  | _ :: _, [], h => nomatch h
  | x :: a, y :: b, h => by
    obtain ⟨h1, h2⟩ := List.cons.inj h
    cases h1
    rw [nums_inj h2]
theorem encKey_inj {hid a b : List Int} (h : encKey hid a = encKey hid b) : a = b := by
  unfold encKey at h
  injection h with h
  exact nums_inj (List.append_cancel_right h)
theorem encKey_mem {hid k : List Int} {mm : Memo} : encKey hid k ∈ mm.map (encKey hid) ↔ k ∈ mm := by
  constructor
  · intro h
    obtain ⟨x, hx, e⟩ := List.mem_map.mp h
    rw [← encKey_inj e]
    exact hx
  · exact fun h => List.mem_map_of_mem h
theorem encKey_add {hid k : List Int} {mm : Memo} : addX (mm.map (encKey hid)) (encKey hid k) = (addK mm k).map (encKey hid) := by
  unfold addX addK
  by_cases h : k ∈ mm
  · rw [if_pos h, if_pos (encKey_mem.mpr h)]
  · rw [if_neg h, if_neg (fun z => h (encKey_mem.mp z)), List.map_append]
    rfl
theorem datas_nums : ∀ (k : List Int) (r : List NestedKey), NestedKey.datas (k.map .num ++ r) = k.map .int ++ NestedKey.datas r
  | [], _ => rfl
  | x :: k, r => by
    show NestedKey.data (.num x) :: NestedKey.datas (k.map .num ++ r) = _
    rw [datas_nums k r]
    rfl
theorem encKey_data (hid k : List Int) : (encKey hid k).data = .tuple (k.map .int ++ [eL hid]) := by
  have h := datas_nums hid []
  rw [List.append_nil] at h
  show PyData.tuple (NestedKey.datas (k.map .num ++ [.tup (hid.map .num)])) = _
  rw [datas_nums]
  show PyData.tuple (k.map .int ++ [.tuple (NestedKey.datas (hid.map .num))]) = _
  rw [h]
  show PyData.tuple (k.map .int ++ [.tuple (hid.map .int ++ [])]) = _
  rw [List.append_nil]
  rfl
theorem depth_nums : ∀ (k : List Int), NestedKey.depthAll (k.map .num) = 0
  | [] => rfl
  | x :: k => by
    show max 0 (NestedKey.depthAll (k.map .num)) = 0
    rw [depth_nums k]
    rfl
theorem depth_nums2 (r : List NestedKey) : ∀ (k : List Int), NestedKey.depthAll (k.map .num ++ r) = NestedKey.depthAll r
  | [] => rfl
  | x :: k => by
    show max 0 (NestedKey.depthAll (k.map .num ++ r)) = _
    rw [depth_nums2 r k, Nat.zero_max]
theorem encKey_depth (hid k : List Int) : (encKey hid k).depth ≤ 8 := by
  show NestedKey.depthAll (k.map .num ++ [.tup (hid.map .num)]) + 1 ≤ 8
  rw [depth_nums2]
  show max (NestedKey.depthAll (hid.map .num) + 1) 0 + 1 ≤ 8
  rw [depth_nums]
  decide
/-! ### unlike nothing -/
theorem unl_nil {h : List Int} (hs : h.Pairwise (· < ·)) : unl h [] = h := by
  unfold unl
  rw [List.append_nil]
  have e : (h.filter fun x => decide (x ∈ h) != decide (x ∈ ([] : List Int))) = h := List.filter_eq_self.mpr fun x hx => by simp [hx]
  rw [e]
  exact (isort_uniq (List.Perm.refl h) (hs.imp fun h => by omega)).symm
end Dome
/-! the search -/
namespace Dome
open PySem PySem.Spec PyProof.Rows L2 Evl

structure Srch (P : Program) (w : World) (K : PySem.W.Frag) (H : Hp) (s : Sky) (wd : Show) (hid : List Int) (a lk : Addr) (mm : Memo) (v1 v5 : V) : Prop where
  hs : s.ok
  hw : wd.fit
  rise : hid.Pairwise (· < ·)
  hl : hid.length ≤ 50
  k1 : Dt K H v1 (eSky s)
  k5 : Dt K H v5 (eShow wd)
  kl : SqT K H lk [.int (roundOf s : Int), .int (turnsOf s), .ref a]
  kd : Dx P w K H a (mm.map (encKey hid))
theorem Srch.mv {P : Program} {w : World} {K : PySem.W.Frag} {H H' : Hp} {s : Sky} {wd : Show} {hid : List Int} {a lk : Addr} {mm mm' : Memo} {v1 v5 : V} (S : Srch P w K H s wd hid a lk mm v1 v5) (t : Tx H H') (dx : Dx P w K H' a (mm'.map (encKey hid))) : Srch P w K H' s wd hid a lk mm' v1 v5 :=
  ⟨S.hs, S.hw, S.rise, S.hl, S.k1.at t, S.k5.at t, t.sq S.kl, dx⟩
theorem Srch.ex {P : Program} {w : World} {K : PySem.W.Frag} {H H' : Hp} {s : Sky} {wd : Show} {hid : List Int} {a lk : Addr} {mm : Memo} {v1 v5 : V} (S : Srch P w K H s wd hid a lk mm v1 v5) (e : Ex H H') : Srch P w K H' s wd hid a lk mm v1 v5 := S.mv (.of e) (S.kd.mono e)
def cfg (s : Sky) (wd : Show) (hid : List Int) : Cfg := ⟨s, fun m e n => hasFault s wd ⟨m, e, n, hid⟩⟩
def After (P : Program) (w : World) (K : PySem.W.Frag) (H : Hp) (a : Addr) (hid : List Int) (r : Option Int × Memo) (Q : VK) : Prop :=
  ∀ v H', ExB a H H' → Tx H H' → Dx P w K H' a (r.2.map (encKey hid)) → Dt K H' v (eIntO r.1) → Q v H'
structure FinAt (s : Sky) (xs : List Item) (d n : Nat) (path : List Int) (mm : Memo) (nn : Int) : Prop where
  ok : okL s d xs
  pl : plainL xs
  ln : xs.length ≤ 3
  dn : d + 1 ≤ n
  n4 : n ≤ 4
  pt : path.length + d ≤ 900
  ml : mm.length + 3 * 12 ^ d ≤ 1000000
  n1 : -1000000 + 400 * ((12 ^ d : Nat) : Int) ≤ nn
  n2 : nn ≤ 1000000 - 400 * ((12 ^ d : Nat) : Int)
structure FagAt (s : Sky) (t : Int) (ys : List Item) (d n : Nat) (path : List Int) (mm : Memo) (nn : Int) : Prop where
  ok : okI s (d + 1) (.again t ys)
  pl : plainL ys
  dn : d + 1 ≤ n
  n4 : n ≤ 4
  pt : path.length + d ≤ 900
  ml : mm.length + 12 * 12 ^ d ≤ 1000000
  n1 : -1000000 + 1588 * ((12 ^ d : Nat) : Int) ≤ nn
  n2 : nn ≤ 1000000 - 1588 * ((12 ^ d : Nat) : Int)
def sp_fin (n : Nat) (P : Program) (w : World) (K : PySem.W.Frag) : Sp := fun vs H Q _ => ∃ s wd hid a lk mm v1 v2 v3 v4 v5 xs d path m e nn, vs = [v1, v2, v3, v4, .ref (He.ga K "has_fault"), v5, .ref lk] ∧ Srch P w K H s wd hid a lk mm v1 v5 ∧
  Dt K H v2 (eItemsT xs) ∧ Dt K H v3 (eL path) ∧ Dt K H v4 (eStt ⟨m, e, nn, hid⟩) ∧ FinAt s xs d n path mm nn ∧ After P w K H a hid (findIn (cfg s wd hid) xs path m e nn mm) Q
def sp_fag (n : Nat) (P : Program) (w : World) (K : PySem.W.Frag) : Sp := fun vs H Q _ => ∃ s wd hid a lk mm v1 v2 v3 v4 v5 t ys d path m e nn, vs = [v1, v2, v3, v4, .ref (He.ga K "has_fault"), v5, .ref lk] ∧ Srch P w K H s wd hid a lk mm v1 v5 ∧
  Dt K H v2 (eItem (.again t ys)) ∧ Dt K H v3 (eL path) ∧ Dt K H v4 (eStt ⟨m, e, nn, hid⟩) ∧ FagAt s t ys d n path mm nn ∧ After P w K H a hid (findI (cfg s wd hid) (.again t ys) path m e nn mm) Q
theorem len_found_in {n : Nat} {P : Program} {w : World} {K : PySem.W.Frag} : ∀ vs H Q E, sp_fin n P w K vs H Q E → vs.length = ["sky", "items", "path", "state", "test", "thing", "look"].length := fun vs H Q E h => by
  obtain ⟨s, wd, hid, a, lk, mm, v1, v2, v3, v4, v5, xs, d, path, m, e, nn, rfl, _⟩ := h
  rfl
theorem len_found_again {n : Nat} {P : Program} {w : World} {K : PySem.W.Frag} : ∀ vs H Q E, sp_fag n P w K vs H Q E → vs.length = ["sky", "again", "path", "state", "test", "thing", "look"].length := fun vs H Q E h => by
  obtain ⟨s, wd, hid, a, lk, mm, v1, v2, v3, v4, v5, t, ys, d, path, m, e, nn, rfl, _⟩ := h
  rfl
section
variable {K : PySem.W.Frag} {σ : L2.St} {H : Hp} {te : TE} {ta tr : TA} {D : Ends} {u : TS} {Q : List V → Hp → Prop} {d : PyData} {v : V}
theorem ta_v {i : Nat} (h : σ[i]? = some (some v)) (k : tr σ H fun vs H1 => Q (v :: vs) H1) : tCons (tVar i) tr σ H Q := ⟨v, h, k⟩
theorem ta_d (h : Ed K te σ H d) (k : ∀ v H1, Ex H H1 → Dt K H1 v d → tr σ H1 fun vs H2 => Q (v :: vs) H2) : tCons te tr σ H Q := h H (Tx.refl H) _ fun v H1 e kd => k v H1 e kd
theorem ta_nil (k : Q [] H) : tNil σ H Q := k
theorem sq_callM {sp : Sp} {E : XK} {i : Nat} (h : ta σ H fun vs H1 => sp (vs ++ []) H1 (fun x H2 => u D (σ.set i (some x)) H2) E) : tSeq (tAsg (tCall sp [] E ta) (gName i)) u D σ H := h
theorem sd_callM {sp : Sp} {E : XK} {i : Nat} (h : ta σ H fun vs H1 => sp (vs ++ []) H1 (fun x H2 => D.nx (σ.set i (some x)) H2) E) : tAsg (tCall sp [] E ta) (gName i) D σ H := h
theorem sd_retM {sp : Sp} {E : XK} (h : ta σ H fun vs H1 => sp (vs ++ []) H1 D.rt E) : tRet (tCall sp [] E ta) D σ H := h
theorem ed_callL {i : Nat} {f : Addr} {R : List PyData → PyData → Prop} {E : XK} {ds : List PyData} (hv : σ[i]? = some (some (.ref f))) (h : Ea K ta σ H ds) (hR : R ds d) : Ed K (tCallL i f (spP K R) [] E ta) σ H d := fun H1 e Q q =>
  ⟨hv, h H1 e _ fun vs H2 e2 ks => ⟨ds, d, by rw [List.append_nil]; exact ks, hR, fun v H3 e3 k => q v H3 (e2.trans e3) k⟩⟩
/-- look[0], look[1] -/
theorem ed_lk {i : Nat} {lk : Addr} {j k : Int} {x : V} (h : σ[i]? = some (some (.ref lk))) (kl : SqT K H lk [.int j, .int k, x]) : Ed K (tOp (rIxT K) (tVar i) (tC (.int 0))) σ H (.int j) := fun H1 e Q q =>
  ⟨_, h, lk, _, 0, .int j, rfl, rfl, e.sq kl, rfl, q _ H1 (Ex.refl H1) (.int j)⟩
theorem ed_lk1 {i : Nat} {lk : Addr} {j k : Int} {x : V} (h : σ[i]? = some (some (.ref lk))) (kl : SqT K H lk [.int j, .int k, x]) : Ed K (tOp (rIxT K) (tVar i) (tC (.int 1))) σ H (.int k) := fun H1 e Q q =>
  ⟨_, h, lk, _, 1, .int k, rfl, rfl, e.sq kl, rfl, q _ H1 (Ex.refl H1) (.int k)⟩
end
theorem mul3_bd {t a B : Int} (h0 : 0 ≤ t) (h1 : t ≤ 3) (a0 : -B ≤ a) (a1 : a ≤ B) : -(3 * B) ≤ a * t ∧ a * t ≤ 3 * B := by
  have : t = 0 ∨ t = 1 ∨ t = 2 ∨ t = 3 := by omega
  rcases this with rfl | rfl | rfl | rfl <;> omega
theorem often_plain {a : Stt} {t : Int} (h : a.hid = []) : often a t = ⟨a.m * t, a.e * t, a.n * t, []⟩ := by
  unfold often
  rw [h]
  split <;> rfl
theorem putOn_plain {m e n : Int} {hid : List Int} {b : Stt} (hs : hid.Pairwise (· < ·)) (h : b.hid = []) : putOn ⟨m, e, n, hid⟩ b = ⟨m + b.m, e + b.e, n + b.n, hid⟩ := by
  unfold putOn
  dsimp only
  rw [h, unl_nil hs]
theorem st_found_again {P : Program} {w : World} {K : PySem.W.Frag} {mg : Str → Option Value} {base : Heap} (T : Txt K mg) {n k : Nat} (hk : 15 ≤ k) (G_size_of : Gd_size_of P w K mg base) (G_sums_of : Gd_sums_of P w K mg base) (G_turns_near : Gd_turns_near P w K mg base) (G_put_on : Gd_put_on P w K mg base) (G_often : Gd_often P w K mg base)
    (G_found_in : Good P w K mg base k "found_in" ["sky", "items", "path", "state", "test", "thing", "look"] (sp_fin n P w K)) : Good P w K mg base (k + 1) "found_again" ["sky", "again", "path", "state", "test", "thing", "look"] (sp_fag n P w K) := by
  refine Good.of T.f_found_again sc_found_again (fun _ _ _ _ _ _ us hl => match us, hl with | [_, _, _, _, _, _, _], _ => rfl) len_found_again fun cdv A outer s H vs Q E hr h => ?_
  refine ⟨_, (pss_cons (ps_par (i := 7) (j := 8) rfl sc_found_again.nd rfl rfl (by decide) rfl rfl (pa_cons (pe_g G_size_of (hr.mono (by omega)) (pa_cons (pe_ix (show IxR _ (rIxT K) from ix_tup) (pv 1) pe_int (fun _ _ => rfl)) pa_nil)) (pa_cons (pe_g G_sums_of (hr.mono (by omega)) (pa_cons (pe_ix (show IxR _ (rIxT K) from ix_tup) (pv 1) pe_int (fun _ _ => rfl)) pa_nil)) pa_nil)) (by rfl))
    (pss_cons (ps_if (pt_cmpR op_eq (pv 7) pe_int (nomark _)) (pss_one (ps_ret pe_non)) pss_nil)
    (pss_cons (ps_asg (pe_g G_turns_near (hr.mono (by omega)) (pa_cons (pv 0) (pa_cons (pv 1) (pa_cons (pe_ix (show IxR _ (rIxT K) from ix_tup) (pv 3) pe_int (fun _ _ => rfl)) (pa_cons (pe_ix (show IxR _ (rIxT K) from ix_tup) (pv 6) pe_int (fun _ _ => rfl)) pa_nil))))) (show PG _ _ (gTup K 2 (gCons (gName 9) (gCons (gName 10) gNil))) from pg_tup rfl (pgs_cons (pg_name (i := 9) sc_found_again.nd rfl (.inl rfl)) (pgs_cons (pg_name (i := 10) sc_found_again.nd rfl (.inl rfl)) pgs_nil))))
    (pss_cons (ps_for PassesOwn.never rfl (pi_range2 rfl (T.b_range) (pa_cons (pv 9) (pa_cons (pv 10) pa_nil))) (pg_name (i := 11) sc_found_again.nd rfl (.inl rfl)) (pss_cons (ps_set (i := 12) sc_found_again.nd rfl (.inl rfl) (pe_g G_found_in (hr.mono (by omega)) (pa_cons (pv 0) (pa_cons (pe_ix (show IxR _ (rIxT K) from ix_tup) (pv 1) pe_int (fun _ _ => rfl)) (pa_cons (pv 2) (pa_cons (pe_g G_put_on (hr.mono (by omega)) (pa_cons (pv 3) (pa_cons (pe_g G_often (hr.mono (by omega)) (pa_cons (pv 8) (pa_cons (pv 11) pa_nil))) pa_nil))) (pa_cons (pv 4) (pa_cons (pv 5) (pa_cons (pv 6) pa_nil)))))))))
    (pss_one (ps_if (pt_cmpR op_notN (pv 12) pe_non (nomark _)) (pss_one (ps_ret (pe_op op_add (pe_op op_mul (pv 11) (pv 7)) (pv 12)))) pss_nil))))
    (pss_one (ps_ret pe_non)))))), ?_⟩
  obtain ⟨s, wd, hid, a, lk, mm, v1, v2, v3, v4, v5, t, ys, d, path, m, e, nn, rfl, S, h2, h3, h4, A, hq⟩ := h
  have okd := A.ok
  unfold okI at okd
  obtain ⟨g1, g2, g3, g4⟩ := okd
  have dn := A.dn
  have n4 := A.n4
  have pt := A.pt
  have pl := A.pl
  have ml := A.ml
  have n1 := A.n1
  have n2 := A.n2
  have p := p12_pos d
  have p' := n12_pos d
  have hs := S.hs
  have hp0 := sums_plain ys pl
  obtain ⟨u1, u2⟩ := sumL_bd s ys d zero g4
  have z : zero.n = 0 := rfl
  rw [z, Int.sub_zero] at u1 u2
  have hse : (sums ys).n = (sumL zero ys).n := rfl
  rw [← hse] at u1 u2
  have q0 : (ys.length : Int) * (99 * ((12 ^ d : Nat) : Int)) ≤ ((3 : Nat) : Int) * (99 * ((12 ^ d : Nat) : Int)) := Int.mul_le_mul_of_nonneg_right (by omega) (by omega)
  refine sq_par (K := K) (d1 := .int (sizeL ys)) (d2 := eStt (sums ys)) (ed_call (ea_cons (ed_ix (ed_var rfl h2) ed_int rfl) ea_nil) (.mk s ys d g4 (by omega))) (ed_call (ea_cons (ed_ix (ed_var rfl h2) ed_int rfl) ea_nil) (.mk s ys d g4 pl (by omega))) fun x1 x2 H1 e1 k1 k2 => ?_
  cases k1
  refine sq_ifN (eb_val (K := K) (ed_eqI (ed_var rfl (.int (sizeL ys))) ed_int)) (fun z H2 e2 => ?_) fun z H2 e2 => ?_
  · have z0 := of_decide_eq_true z
    refine sd_ret (K := K) ed_non fun v H3 e3 kv => ?_
    have eT := (e1.trans e2).trans e3
    have er : findI (cfg s wd hid) (.again t ys) path m e nn mm = (none, mm) := by rw [findI, if_pos z0]
    rw [er] at hq
    exact hq v H3 (.of eT) (.of eT) (S.kd.mono eT) kv
  have z0 := of_decide_eq_false z
  have er : findI (cfg s wd hid) (.again t ys) path m e nn mm = turnLoop (fun k mm => keyed ((cfg s wd hid).key path (m + (sums ys).m * k) (e + (sums ys).e * k) (nn + (sums ys).n * k)) (findL (cfg s wd hid) ys 0 0 path (m + (sums ys).m * k) (e + (sums ys).e * k) (nn + (sums ys).n * k)) mm)
      (sizeL ys) ((turnsNear s t ys nn (turnsOf s)).2 - (turnsNear s t ys nn (turnsOf s)).1).toNat (turnsNear s t ys nn (turnsOf s)).1 mm := by rw [findI, if_neg z0]; rfl
  rw [er] at hq
  have eT2 := e1.trans e2
  have S2 := S.ex eT2
  have h22 := h2.ex eT2
  have h42 := h4.ex eT2
  refine sq_un2 (ed_call (ea_cons (ed_var rfl S2.k1) (ea_cons (ed_var rfl h22) (ea_cons (ed_ix (ed_var rfl h42) ed_int rfl) (ea_cons (ed_lk1 rfl S2.kl) ea_nil)))) (.mk s t ys d nn (turnsOf s) g4 pl g3 (by omega))) fun y1 y2 H3 e3 m1 m2 => ?_
  cases m1; cases m2
  have eT3 := eT2.trans e3
  have S3 := S.ex eT3
  have h23 := h2.ex eT3
  have h33 := h3.ex eT3
  have h43 := h4.ex eT3
  have k23 := (k2.ex e2).ex e3
  have nb := near_bd (s := s) (t := t) (xs := ys) (d := d) (north := nn) hs g4 g3 (by omega) g1 g2 (by omega) (by omega)
  have hcnt : ((turnsNear s t ys nn (turnsOf s)).2 - (turnsNear s t ys nn (turnsOf s)).1).toNat ≤ 4 := by omega
  revert hq hcnt
  generalize eF : (turnsNear s t ys nn (turnsOf s)).1 = F at nb ⊢
  generalize eL : (turnsNear s t ys nn (turnsOf s)).2 = L at nb ⊢
  generalize eN : (L - F).toNat = N
  intro hq hcnt
  obtain ⟨b1, b2, b3, b4⟩ := nb
  refine sq_forR2 (K := K) (a := F) (b := L) (ea_cons (ed_var rfl (.int F)) (ea_cons (ed_var rfl (.int L)) ea_nil)) (by omega) (by omega) (by omega) (by omega) fun H4 e4 => ?_
  rw [eN]
  have eT4 := eT3.trans e4
  refine ⟨fun i σ' H' => ∃ mm' c11 c12, σ' = [some v1, some v2, some v3, some v4, some (.ref (He.ga K "has_fault")), some v5, some (.ref lk), some (.int (sizeL ys)), some x2, some (.int F), some (.int L), c11, c12] ∧ ExB a H H' ∧ Tx H4 H' ∧ Dx P w K H' a (mm'.map (encKey hid)) ∧ mm'.length ≤ mm.length + i * (3 * 12 ^ d) ∧
    turnLoop (fun k mm => keyed ((cfg s wd hid).key path (m + (sums ys).m * k) (e + (sums ys).e * k) (nn + (sums ys).n * k)) (findL (cfg s wd hid) ys 0 0 path (m + (sums ys).m * k) (e + (sums ys).e * k) (nn + (sums ys).n * k)) mm) (sizeL ys) (N - i) (F + (i : Int)) mm' = turnLoop (fun k mm => keyed ((cfg s wd hid).key path (m + (sums ys).m * k) (e + (sums ys).e * k) (nn + (sums ys).n * k)) (findL (cfg s wd hid) ys 0 0 path (m + (sums ys).m * k) (e + (sums ys).e * k) (nn + (sums ys).n * k)) mm) (sizeL ys) N F mm,
    ⟨mm, none, none, rfl, .of eT4, Tx.refl _, S.kd.mono eT4, by omega, by rw [Nat.sub_zero, show F + ((0 : Nat) : Int) = F by omega]⟩, fun i σ' H' hi pv => ?_, fun σ' H' pv => ?_⟩
  · obtain ⟨mm', c11, c12, rfl, xB, xT4, dx, ml', et⟩ := pv
    have xT : Tx H H' := (Tx.of eT4).trans xT4
    have Si := S.mv xT dx
    have k2i : Dt K H' x2 (eStt (sums ys)) := (k23.ex e4).at xT4
    have h2i := h2.at xT
    have h3i := h3.at xT
    have h4i := h4.at xT
    have kk0 : 0 ≤ F + (i : Int) := by omega
    have kk3 : F + (i : Int) ≤ 3 := by omega
    have i3 : i ≤ 3 := by omega
    have nk := mul3_bd (a := (sums ys).n) (B := 297 * ((12 ^ d : Nat) : Int)) kk0 kk3 (by omega) (by omega)
    have im := Nat.mul_le_mul_right (3 * 12 ^ d) i3
    refine sq_callM (ta_v rfl (ta_d (ed_ix (ed_var rfl h2i) ed_int rfl) fun vy H5 e5 ky => ta_v rfl (ta_d (ed_call (ea_cons (ed_var rfl (h4i.ex e5)) (ea_cons (ed_call (ea_cons (ed_var rfl (k2i.ex e5)) (ea_cons (ed_var rfl (.int (F + (i : Int)))) ea_nil)) (.mk (sums ys) (F + (i : Int)) (by omega) (by omega))) ea_nil)) (.mk ⟨m, e, nn, hid⟩ (often (sums ys) (F + (i : Int))) (by rw [often_plain hp0]; have := S.hl; dsimp only; rw [List.length_nil]; omega))) fun vq H6 e6 kq => ta_v rfl (ta_v rfl (ta_v rfl (ta_nil ?_))))))
    rw [often_plain hp0, putOn_plain S.rise rfl] at kq
    dsimp only at kq
    have e56 := e5.trans e6
    refine ⟨s, wd, hid, a, lk, mm', v1, vy, v3, vq, v5, ys, d, path, m + (sums ys).m * (F + (i : Int)), e + (sums ys).e * (F + (i : Int)), nn + (sums ys).n * (F + (i : Int)), rfl, Si.ex e56, ky.ex e6, h3i.ex e56, kq, ⟨g4, pl, g3, dn, n4, pt, by omega, by omega, by omega⟩, fun v H7 xB7 xT7 dx7 kv => ?_⟩
    have eNi : N - i = (N - (i + 1)) + 1 := by omega
    rw [eNi, turnLoop] at et
    have ef : keyed ((cfg s wd hid).key path (m + (sums ys).m * (F + (i : Int))) (e + (sums ys).e * (F + (i : Int))) (nn + (sums ys).n * (F + (i : Int)))) (findL (cfg s wd hid) ys 0 0 path (m + (sums ys).m * (F + (i : Int))) (e + (sums ys).e * (F + (i : Int))) (nn + (sums ys).n * (F + (i : Int)))) mm' = findIn (cfg s wd hid) ys path (m + (sums ys).m * (F + (i : Int))) (e + (sums ys).e * (F + (i : Int))) (nn + (sums ys).n * (F + (i : Int))) mm' := rfl
    rw [ef] at et
    have rl := findIn_len (c := cfg s wd hid) (path := path) (m := m + (sums ys).m * (F + (i : Int))) (e := e + (sums ys).e * (F + (i : Int))) (n := nn + (sums ys).n * (F + (i : Int))) (mm := mm') g4 g3
    have pk := And.intro dx7 (And.intro kv (And.intro et rl))
    clear dx7 kv et rl ef
    revert pk
    generalize findIn (cfg s wd hid) ys path (m + (sums ys).m * (F + (i : Int))) (e + (sums ys).e * (F + (i : Int))) (nn + (sums ys).n * (F + (i : Int))) mm' = r
    obtain ⟨o, mm2⟩ := r
    intro pk
    obtain ⟨dx7, kv, et, rl⟩ := pk
    dsimp only at dx7 kv et rl
    have xB' : ExB a H H7 := (xB.trans (.of e56)).trans xB7
    have xT' : Tx H4 H7 := (xT4.trans (.of e56)).trans xT7
    refine sd_if (eb_val (K := K) (ed_notN (ed_var rfl kv))) (fun z H8 e8 => ?_) fun z H8 e8 => ?_
    · cases o with
      | none => cases z
      | some b =>
        dsimp only at et
        cases kv
        refine sd_ret (K := K) (ed_add (ed_mul (ed_var rfl (.int (F + (i : Int)))) (ed_var rfl (.int (sizeL ys))) (.inl ⟨by omega, by omega⟩)) (ed_var rfl (.int b))) fun v H9 e9 kv => ?_
        rw [← et] at hq
        have e89 := e8.trans e9
        exact hq v H9 (xB'.trans (.of e89)) (((Tx.of eT4).trans xT').trans (.of e89)) (dx7.mono e89) kv
    · cases o with
      | some b => cases z
      | none =>
        dsimp only at et
        refine ⟨mm2, _, _, rfl, xB'.trans (.of e8), xT'.trans (.of e8), dx7.mono e8, ?_, ?_⟩
        · rw [Nat.succ_mul]
          omega
        · rw [← et, show F + ((i + 1 : Nat) : Int) = F + (i : Int) + 1 by omega]
  · obtain ⟨mm', c11, c12, rfl, xB, xT4, dx, ml', et⟩ := pv
    rw [Nat.sub_self, turnLoop] at et
    rw [← et] at hq
    refine sd_ret (K := K) ed_non fun v H5 e5 kv => hq v H5 (xB.trans (.of e5)) (((Tx.of eT4).trans xT4).trans (.of e5)) (dx.mono e5) kv
end Dome
/-! the search: found_in, first_where, looked_through -/
namespace Dome
open PySem PySem.Spec PyProof.Rows L2 Evl

theorem xb_key {P : Program} {w : World} {K : PySem.W.Frag} {σ : L2.St} {H : Hp} {i j : Nat} {lk a : Addr} {r t : Int} {hid k : List Int} {mm : Memo} {vk : V} (h1 : σ[i]? = some (some vk)) (h2 : σ[j]? = some (some (.ref lk))) (kl : SqT K H lk [.int r, .int t, .ref a]) (kd : Dx P w K H a (mm.map (encKey hid))) (kk : Dt K H vk (encKey hid k).data) :
    Xb (tTest (tOp (rInX P w K) (tVar i) (tOp (rIxT K) (tVar j) (tC (.int 2))))) σ H (decide (k ∈ mm)) := fun Q q => by
  obtain ⟨b, rfl⟩ : ∃ b, vk = .ref b := by
    rw [encKey_data] at kk
    cases kk with | tup _ _ => exact ⟨_, rfl⟩
  refine ⟨_, h1, _, h2, lk, _, 2, .ref a, rfl, rfl, kl, rfl, a, b, _, encKey hid k, rfl, rfl, kd, kk, encKey_depth hid k, _, rfl, ?_⟩
  have e : decide (encKey hid k ∈ mm.map (encKey hid)) = decide (k ∈ mm) := by
    by_cases h : k ∈ mm
    · rw [decide_eq_true h, decide_eq_true (encKey_mem.mpr h)]
    · rw [decide_eq_false h, decide_eq_false fun z => h (encKey_mem.mp z)]
  rw [e]
  exact q H (Ex.refl H)
theorem sq_set {P : Program} {w : World} {K : PySem.W.Frag} {σ : L2.St} {H : Hp} {D : Ends} {u : TS} {i j : Nat} {lk a : Addr} {r t : Int} {hid k : List Int} {mm : Memo} {vk : V} (h1 : σ[i]? = some (some vk)) (h2 : σ[j]? = some (some (.ref lk))) (kl : SqT K H lk [.int r, .int t, .ref a]) (kd : Dx P w K H a (mm.map (encKey hid))) (kk : Dt K H vk (encKey hid k).data)
    (hl : mm.length < 1000000) (n : ∀ H', Dx P w K H' a ((addK mm k).map (encKey hid)) → ExB a H H' → Tx H H' → u D σ H') : tSeq (tAsg (tC (.bl true)) (gSub (tOp (rIxT K) (tVar j) (tC (.int 2))) (tVar i) (rSetX P w K))) u D σ H := by
  obtain ⟨b, rfl⟩ : ∃ b, vk = .ref b := by
    rw [encKey_data] at kk
    cases kk with | tup _ _ => exact ⟨_, rfl⟩
  refine ⟨_, h2, lk, _, 2, .ref a, rfl, rfl, kl, rfl, _, h1, a, b, _, encKey hid k, rfl, rfl, rfl, kd, kk, encKey_depth hid k, by rw [List.length_map]; exact hl, fun H' dx xB xT => ?_⟩
  rw [encKey_add] at dx
  exact n H' dx xB xT
theorem ta_nilC {σ : L2.St} {H : Hp} {v : V} {tr : TA} {Q : List V → Hp → Prop} (k : tr σ H fun vs H1 => Q (v :: vs) H1) : tCons (tC v) tr σ H Q := k
theorem twelve_le {d : Nat} (h : d ≤ 3) : 3 * 12 ^ d ≤ 5184 := by
  have : d = 0 ∨ d = 1 ∨ d = 2 ∨ d = 3 := by omega
  rcases this with rfl | rfl | rfl | rfl <;> decide
theorem st_found_in {P : Program} {w : World} {K : PySem.W.Frag} {mg : Str → Option Value} {base : Heap} (T : Txt K mg) {n k : Nat} (hk : 15 ≤ k) (G_put_on : Gd_put_on P w K mg base) (G_sums_in : Gd_sums_in P w K mg base) (G_size_of : Gd_size_of P w K mg base) (G_test : Gd_has_fault P w K mg base)
    (G_found_again : Good P w K mg base k "found_again" ["sky", "again", "path", "state", "test", "thing", "look"] (sp_fag n P w K)) : Good P w K mg base (k + 1) "found_in" ["sky", "items", "path", "state", "test", "thing", "look"] (sp_fin (n + 1) P w K) := by
  refine Good.of T.f_found_in sc_found_in (fun _ _ _ _ _ _ us hl => match us, hl with | [_, _, _, _, _, _, _], _ => rfl) len_found_in fun cdv A outer s H vs Q E hr h => ?_
  refine ⟨_, (pss_cons (ps_set (i := 7) sc_found_in.nd rfl (.inl rfl) (pe_op op_catA (pe_op op_catA (pv 2) (pe_tup (pa_cons (pe_op op_mod (pe_ix (show IxR _ (rIxT K) from ix_tup) (pv 3) pe_int (fun _ _ => rfl)) (pe_ix (show IxR _ (rIxT K) from ix_tup) (pv 6) pe_int (fun _ _ => rfl))) (pa_cons (pe_op op_mod (pe_ix (show IxR _ (rIxT K) from ix_tup) (pv 3) pe_int (fun _ _ => rfl)) (pe_ix (show IxR _ (rIxT K) from ix_tup) (pv 0) pe_int (fun _ _ => rfl))) pa_nil)))) (pe_slice sl_tupA (pv 3) (po_some pe_int) po_none)))
    (pss_cons (ps_if (pt_cmpR (op_inX hr.units) (pv 7) (pe_ix (show IxR _ (rIxT K) from ix_tup) (pv 6) pe_int (fun _ _ => rfl)) rfl) (pss_one (ps_ret pe_non)) pss_nil)
    (pss_cons (ps_set (i := 8) sc_found_in.nd rfl (.inl rfl) pe_int)
    (pss_cons (ps_for PassesOwn.never rfl (pi_enumT rfl (T.b_enumerate) (pa_cons (pv 1) pa_nil)) (show PG _ _ (gTup K 2 (gCons (gName 9) (gCons (gName 10) gNil))) from pg_tup rfl (pgs_cons (pg_name (i := 9) sc_found_in.nd rfl (.inl rfl)) (pgs_cons (pg_name (i := 10) sc_found_in.nd rfl (.inl rfl)) pgs_nil))) (pss_cons (ps_set (i := 11) sc_found_in.nd rfl (.inl rfl) pe_non)
    (pss_cons (ps_set (i := 12) sc_found_in.nd rfl (.inl rfl) (pe_g G_put_on (hr.mono (by omega)) (pa_cons (pv 3) (pa_cons (pe_g G_sums_in (hr.mono (by omega)) (pa_cons (pv 10) pa_nil)) pa_nil))))
    (pss_cons (ps_if (pt_cmpR op_eq (pe_ix (show IxR _ (rIxT K) from ix_tup) (pv 10) pe_int (fun _ _ => rfl)) (pe_gs (T.s_AGAIN)) (nomark _)) (pss_one (ps_set (i := 11) sc_found_in.nd rfl (.inl rfl) (pe_g G_found_again (hr.mono (by omega)) (pa_cons (pv 0) (pa_cons (pv 10) (pa_cons (pe_op op_catA (pv 2) (pe_tup (pa_cons (pv 9) pa_nil))) (pa_cons (pv 3) (pa_cons (pv 4) (pa_cons (pv 5) (pa_cons (pv 6) pa_nil)))))))))) (pss_one (ps_if (PW.pt (pw_and (pt_cmpR op_ne (pe_ix (show IxR _ (rIxT K) from ix_tup) (pv 10) pe_int (fun _ _ => rfl)) pe_str (nomark _)) (pw_and1 (pt_val (pe_callLG G_test (hr.mono (by omega)) (i := 4) (pa_cons (pv 0) (pa_cons (pv 5) (pa_cons (pv 12) pa_nil)))))))) (pss_one (ps_set (i := 11) sc_found_in.nd rfl (.inl rfl) pe_int)) pss_nil)))
    (pss_cons (ps_if (pt_cmpR op_notN (pv 11) pe_non (nomark _)) (pss_one (ps_ret (pe_op op_add (pv 8) (pv 11)))) pss_nil)
    (pss_one (ps_par (i := 8) (j := 3) rfl sc_found_in.nd rfl rfl (by decide) rfl rfl (pa_cons (pe_op op_add (pv 8) (pe_g G_size_of (hr.mono (by omega)) (pa_cons (pe_tup (pa_cons (pv 10) pa_nil)) pa_nil))) (pa_cons (pv 12) pa_nil)) (by rfl))))))))
    (pss_cons (ps_asg pe_bl (pg_sub (pe_ix (show IxR _ (rIxT K) from ix_tup) (pv 6) pe_int (fun _ _ => rfl)) (pv 7) (set_X hr.units)))
    (pss_one (ps_ret pe_non))))))), ?_⟩
  obtain ⟨s, wd, hid, a, lk, mm, v1, v2, v3, v4, v5, xs, d, path, m, e, nn, rfl, S, h2, h3, h4, A, hq⟩ := h
  have ok := A.ok
  have dn := A.dn
  have n4 := A.n4
  have pt := A.pt
  have pl := A.pl
  have ln := A.ln
  have ml := A.ml
  have n1 := A.n1
  have n2 := A.n2
  have p := p12_pos d
  have p' := n12_pos d
  have hs := S.hs
  have hl := S.hl
  have w1 := hs.w1
  have rp := round_pos s
  refine sq_asg (K := K) (d := (encKey hid ((cfg s wd hid).key path m e nn)).data) (ed_is (ed_cat (es := [.int nn, eL hid]) (ed_cat (ds := path.map .int) (es := [.int (m % (roundOf s : Int)), .int (e % s.wide)]) (ed_var rfl h3) (ed_tup (ea_cons (ed_mod (ed_ix (ed_var rfl h4) ed_int rfl) (ed_lk rfl S.kl) (by omega)) (ea_cons (ed_mod (ed_ix (ed_var rfl h4) ed_int rfl) (ed_ix (ed_var rfl S.k1) ed_int rfl) (by omega)) ea_nil))) (by rw [List.length_map]; have e2 : [PyData.int (m % (roundOf s : Int)), .int (e % s.wide)].length = 2 := rfl; omega)) (ed_is (ed_sl (ed_var rfl h4) (eo_some (K := K) ed_int) eo_none) rfl) (by rw [List.length_append, List.length_map]; have e2 : [PyData.int (m % (roundOf s : Int)), .int (e % s.wide)].length = 2 := rfl; have e3 : [PyData.int nn, eL hid].length = 2 := rfl; omega)) ?_) fun vk H1 e1 kk => ?_
  · rw [encKey_data]
    unfold Cfg.key
    rw [List.map_append, List.append_assoc, List.append_assoc]
    rfl
  have S1 := S.ex e1
  refine sq_ifX (xb_key rfl rfl S1.kl S1.kd kk) (fun z H2 e2 => ?_) fun z H2 e2 => ?_
  · refine sd_ret (K := K) ed_non fun v H3 e3 kv => ?_
    have eT := (e1.trans e2).trans e3
    have er : findIn (cfg s wd hid) xs path m e nn mm = (none, mm) := by unfold findIn keyed; rw [if_pos (of_decide_eq_true z)]
    rw [er] at hq
    exact hq v H3 (.of eT) (.of eT) (S.kd.mono eT) kv
  have z0 := of_decide_eq_false z
  have er : findIn (cfg s wd hid) xs path m e nn mm = match findL (cfg s wd hid) xs 0 0 path m e nn mm with
    | (some b, mm') => (some b, mm')
    | (none, mm') => (none, addK mm' ((cfg s wd hid).key path m e nn)) := by
    unfold findIn keyed
    rw [if_neg z0]
    all_goals
      generalize findL (cfg s wd hid) xs 0 0 path m e nn mm = W
      obtain ⟨o, m2⟩ := W
      cases o <;> rfl
  rw [er] at hq
  clear er
  revert hq
  generalize eW : findL (cfg s wd hid) xs 0 0 path m e nn mm = W0
  intro hq
  refine sq_asg (K := K) ed_int fun vg H3 e3 kg => ?_
  cases kg
  have eT3 := (e1.trans e2).trans e3
  have kk3 := (kk.ex e2).ex e3
  refine sq_forE (ds := eItems xs) (ea_cons (ed_var rfl (h2.ex eT3)) ea_nil) fun H4 e4 => ?_
  have eT4 := eT3.trans e4
  refine ⟨(fun (i : Nat) (σ' : L2.St) (H' : Hp) => ∃ gone m' e' n' mm' vst c9 c10 c11 c12, σ' = [some v1, some v2, some v3, some vst, some (.ref (He.ga K "has_fault")), some v5, some (.ref lk), some vk, some (.int gone), c9, c10, c11, c12] ∧ Dt K H' vst (eStt ⟨m', e', n', hid⟩) ∧ ExB a H H' ∧ Tx H4 H' ∧ Dx P w K H' a (mm'.map (encKey hid)) ∧ mm'.length ≤ mm.length + i * (12 ^ d - 1) ∧ -((i : Int) * (99 * ((12 ^ d : Nat) : Int))) ≤ n' - nn ∧ n' - nn ≤ (i : Int) * (99 * ((12 ^ d : Nat) : Int)) ∧ findL (cfg s wd hid) (xs.drop i) i gone path m' e' n' mm' = W0), ⟨0, m, e, nn, mm, v4, none, none, none, none, rfl, h4.ex eT4, .of eT4, Tx.refl _, S.kd.mono eT4, by omega, by omega, by omega, eW⟩, fun i σ' H' pv => ?_, fun i dx v σ' H' H'' hi pv eH kv => ?_, fun σ' H' pv => ?_⟩
  · obtain ⟨gone, m', e', n', mm', vst, c9, c10, c11, c12, _, _, _, xT4, _⟩ := pv
    exact xT4
  · obtain ⟨gone, m', e', n', mm', vst, c9, c10, c11, c12, rfl, kst, xB, xT4, dx, ml', nl1, nl2, ew⟩ := pv
    obtain ⟨x, hxi, rfl⟩ := items_get hi
    have hm := List.mem_of_getElem? hxi
    have okx := okL_mem ok x hm
    have plx := plainL_mem pl x hm
    obtain ⟨hlt, exi⟩ := List.getElem?_eq_some_iff.mp hxi
    have xT : Tx H H' := (Tx.of eT4).trans xT4
    have xT'' : Tx H H'' := xT.trans (.of eH)
    have S' := S.mv xT'' (dx.mono eH)
    have kst := kst.ex eH
    have i3 : i ≤ 2 := by omega
    have im := Nat.mul_le_mul_right (12 ^ d - 1) i3
    have ii : (i : Int) * (99 * ((12 ^ d : Nat) : Int)) ≤ 2 * (99 * ((12 ^ d : Nat) : Int)) := Int.mul_le_mul_of_nonneg_right (by omega) (by omega)
    obtain ⟨sb1, sb2⟩ := sumI_bd s x d okx
    have okx1 : okL s d [x] := by unfold okL; exact ⟨okx, by unfold okL; trivial⟩
    have esz : sizeL [x] = sizeI x := by rw [sizeL, sizeL]; omega
    rw [List.drop_eq_getElem_cons hlt, exi, findL] at ew
    -- behind the call
    have fin : ∀ (D : Ends) (o : Option Int) (mm2 : Memo) (v11 vl : V) (H5 : Hp), D.nx = (fun (i : Nat) (σ' : L2.St) (H' : Hp) => ∃ gone m' e' n' mm' vst c9 c10 c11 c12, σ' = [some v1, some v2, some v3, some vst, some (.ref (He.ga K "has_fault")), some v5, some (.ref lk), some vk, some (.int gone), c9, c10, c11, c12] ∧ Dt K H' vst (eStt ⟨m', e', n', hid⟩) ∧ ExB a H H' ∧ Tx H4 H' ∧ Dx P w K H' a (mm'.map (encKey hid)) ∧ mm'.length ≤ mm.length + i * (12 ^ d - 1) ∧ -((i : Int) * (99 * ((12 ^ d : Nat) : Int))) ≤ n' - nn ∧ n' - nn ≤ (i : Int) * (99 * ((12 ^ d : Nat) : Int)) ∧ findL (cfg s wd hid) (xs.drop i) i gone path m' e' n' mm' = W0) (i + 1) → D.rt = Q → ExB a H H5 → Tx H4 H5 → Dx P w K H5 a (mm2.map (encKey hid)) → Dt K H5 v11 (eIntO o) → Dt K H5 vl (eStt ⟨m' + (sumI x).m, e' + (sumI x).e, n' + (sumI x).n, hid⟩) → Dt K H5 v (eItem x) → findI (cfg s wd hid) x (path ++ [(i : Int)]) m' e' n' mm' = (o, mm2) →
        tSeq (tIfS (tTest (tOp rNotNo (tVar 11) (tC .non))) (tRet (tOp rPlus (tVar 8) (tVar 11))) tNext) (tPar 8 3 (tCons (tOp rPlus (tVar 8) (tCall (sp_size_of K) [] E0 (tCons (tTup (tCons (tVar 10) tNil)) tNil))) (tCons (tVar 12) tNil))) D [some v1, some v2, some v3, some vst, some (.ref (He.ga K "has_fault")), some v5, some (.ref lk), some vk, some (.int gone), some (.int (i : Int)), some v, some v11, some vl] H5 := fun D o mm2 v11 vl H5 eD eR xB5 xT5 dx5 k11 kvl kv5 ef => by
      have rl := findI_len (cfg s wd hid) s x d (path ++ [(i : Int)]) m' e' n' mm' okx
      rw [ef] at rl ew
      dsimp only at rl
      refine sq_ifN (eb_val (K := K) (ed_notN (ed_var rfl k11))) (fun z H6 e6 => ?_) fun z H6 e6 => ?_
      · cases o with
        | none => cases z
        | some b =>
          dsimp only at ew
          cases k11
          refine sd_ret (K := K) (ed_add (ed_var rfl (.int gone)) (ed_var rfl (.int b))) fun v H7 e7 kv => ?_
          show D.rt v H7
          rw [eR]
          rw [← ew] at hq
          have e67 := e6.trans e7
          exact hq v H7 (xB5.trans (.of e67)) (((Tx.of eT4).trans xT5).trans (.of e67)) (dx5.mono e67) kv
      · cases o with
        | some b => cases z
        | none =>
          dsimp only at ew
          refine sd_par (K := K) (ed_add (ed_var rfl (.int gone)) (ed_is (ed_call (ds := [eItemsT [x]]) (ea_cons (ed_tup (ea_cons (ed_var rfl (kv5.ex e6)) ea_nil)) ea_nil) (.mk s [x] d okx1 (by omega))) (congrArg PyData.int esz))) (ed_var rfl (kvl.ex e6)) fun y1 y2 H7 e7 m1 m2 => ?_
          cases m1
          rw [eD]
          have e67 := e6.trans e7
          refine ⟨gone + sizeI x, _, _, _, mm2, y2, _, _, _, _, rfl, m2, xB5.trans (.of e67), xT5.trans (.of e67), dx5.mono e67, ?_, ?_, ?_, ew⟩
          · rw [Nat.succ_mul]; omega
          · rw [Int.natCast_add, Int.add_mul]; omega
          · rw [Int.natCast_add, Int.add_mul]; omega
    refine sq_asg (K := K) ed_non fun v0 H5 e5 k0 => ?_
    refine sq_asg (ed_call (ea_cons (ed_var rfl (kst.ex e5)) (ea_cons (ed_call (ea_cons (ed_var rfl (kv.ex e5)) ea_nil) (.mk s x d okx (.inl plx) (by omega))) ea_nil)) (.mk ⟨m', e', n', hid⟩ (sumI x) (by rw [sumI_plain x plx]; dsimp only; rw [List.length_nil]; omega))) fun vl H6 e6 kl => ?_
    rw [putOn_plain S.rise (sumI_plain x plx)] at kl
    have e56 := e5.trans e6
    have xB6 : ExB a H H6 := xB.trans (.of (eH.trans e56))
    have xT6 : Tx H4 H6 := xT4.trans (.of (eH.trans e56))
    have dx6 := (dx.mono eH).mono e56
    have kv6 := kv.ex e56
    cases x with
    | go b1 b2 b3 =>
      refine sq_if (b := false) (eb_s (ed_ix (ed_var rfl kv6) ed_int rfl)) (fun z => nomatch z) fun _ H7 e7 => ?_
      refine sd_if (eb_and (a := true) (b := hasFault s wd ⟨m' + b1, e' + b2, n' + b3, hid⟩) (eb_sn (ed_ix (ed_var rfl (kv6.ex e7)) ed_int rfl)) fun _ => eb_val (K := K) (ed_callL rfl (ea_cons (ed_var rfl ((S'.ex e56).ex e7).k1) (ea_cons (ed_var rfl ((S'.ex e56).ex e7).k5) (ea_cons (ed_var rfl (kl.ex e7)) ea_nil))) (.mk s wd ⟨m' + b1, e' + b2, n' + b3, hid⟩ hs S.hw))) (fun z H8 e8 => ?_) fun z H8 e8 => ?_
      · refine sd_asg (K := K) (ed_int (i := 1)) fun v1' H9 e9 k9 => ?_
        have e79 := (e7.trans e8).trans e9
        refine fin _ (some 1) mm' v1' vl H9 rfl rfl (xB6.trans (.of e79)) (xT6.trans (.of e79)) (dx6.mono e79) k9 (kl.ex e79) (kv6.ex e79) ?_
        rw [findI]
        exact if_pos (show hasFault s wd ⟨m' + b1, e' + b2, n' + b3, hid⟩ = true by simpa using z)
      · have e78 := e7.trans e8
        refine fin _ none mm' v0 vl H8 rfl rfl (xB6.trans (.of e78)) (xT6.trans (.of e78)) (dx6.mono e78) (k0.ex (e6.trans e78)) (kl.ex e78) (kv6.ex e78) ?_
        rw [findI]
        refine if_neg ?_
        have z2 : hasFault s wd ⟨m' + b1, e' + b2, n' + b3, hid⟩ = false := by simpa using z
        show ¬ hasFault s wd ⟨m' + b1, e' + b2, n' + b3, hid⟩ = true
        rw [z2]
        exact Bool.false_ne_true
    | flip l => unfold plainI at plx; exact plx.elim
    | mark =>
      refine sq_if (b := false) (eb_s (ed_ix (ed_var rfl kv6) ed_int rfl)) (fun z => nomatch z) fun _ H7 e7 => ?_
      refine sd_if (b := false) (eb_and (a := false) (b := false) (eb_sn (ed_ix (ed_var rfl (kv6.ex e7)) ed_int rfl)) fun z => nomatch z) (fun z => nomatch z) fun _ H8 e8 => ?_
      have e78 := e7.trans e8
      exact fin _ none mm' v0 vl H8 rfl rfl (xB6.trans (.of e78)) (xT6.trans (.of e78)) (dx6.mono e78) (k0.ex (e6.trans e78)) (kl.ex e78) (kv6.ex e78) (by rw [findI])
    | again t ys =>
      cases d with
      | zero => unfold okI at okx; exact okx.elim
      | succ d =>
      have ply : plainL ys := by unfold plainI at plx; exact plx
      have q12 := p12_succ d
      have q12' : 12 ^ (d + 1) = 12 ^ d * 12 := Nat.pow_succ 12 d
      have pd := p12_pos d
      refine sq_if (b := true) (eb_s (ed_ix (ed_var rfl kv6) ed_int rfl)) (fun _ H7 e7 => ?_) (fun z => nomatch z)
      refine sd_callM (ta_v rfl (ta_v rfl (ta_d (d := eL (path ++ [(i : Int)])) (ed_is (ed_cat (ds := path.map .int) (es := [.int (i : Int)]) (ed_var rfl (((h3.at xT'').ex e56).ex e7)) (ed_tup (ea_cons (ed_var rfl (.int _)) ea_nil)) (by rw [List.length_map, List.length_singleton]; omega)) (by unfold eL; rw [List.map_append]; rfl)) fun vp H8 e8 kp => ta_v rfl (ta_v rfl (ta_v rfl (ta_v rfl (ta_nil ?_)))))))
      have e78 := e7.trans e8
      refine ⟨s, wd, hid, a, lk, mm', v1, v, vp, vst, v5, t, ys, d, path ++ [(i : Int)], m', e', n', rfl, (S'.ex e56).ex e78, kv6.ex e78, kp, (kst.ex e56).ex e78, ⟨okx, ply, by omega, by omega, by rw [List.length_append, List.length_singleton]; omega, by omega, by omega, by omega⟩, fun v1' H9 xB9 xT9 dx9 k9 => ?_⟩
      exact fin _ (findI (cfg s wd hid) (.again t ys) (path ++ [(i : Int)]) m' e' n' mm').1 (findI (cfg s wd hid) (.again t ys) (path ++ [(i : Int)]) m' e' n' mm').2 v1' vl H9 rfl rfl ((xB6.trans (.of e78)).trans xB9) ((xT6.trans (.of e78)).trans xT9) dx9 k9 ((kl.ex e78).at xT9) ((kv6.ex e78).at xT9) rfl
  · obtain ⟨gone, m', e', n', mm', vst, c9, c10, c11, c12, rfl, kst, xB, xT4, dx, ml', nl1, nl2, ew⟩ := pv
    rw [items_len, List.drop_length, findL] at ew
    rw [← ew] at hq
    dsimp only at hq
    have xT : Tx H H' := (Tx.of eT4).trans xT4
    have S' := S.mv xT dx
    have kk' := (kk3.ex e4).at xT4
    obtain ⟨b, rfl⟩ : ∃ b, vk = .ref b := by
      rw [encKey_data] at kk
      cases kk with | tup _ _ => exact ⟨_, rfl⟩
    have xl := items_len xs
    have i3 : (eItems xs).length ≤ 3 := by omega
    have im := Nat.mul_le_mul_right (12 ^ d - 1) i3
    refine sq_set rfl rfl S'.kl S'.kd kk' (by omega) fun H5 dx5 xB5 xT5 => ?_
    exact sd_ret (K := K) ed_non fun v H6 e6 kv => hq v H6 ((xB.trans xB5).trans (.of e6)) ((xT.trans xT5).trans (.of e6)) (dx5.mono e6) kv
def sp_found_in (P : Program) (w : World) (K : PySem.W.Frag) : Sp := sp_fin 4 P w K
abbrev Gd_found_in (P : Program) (w : World) (K : PySem.W.Frag) (mg : Str → Option Value) (base : Heap) : Prop := Good P w K mg base 23 "found_in" ["sky", "items", "path", "state", "test", "thing", "look"] (sp_fin 4 P w K)
theorem ok_found_in {P : Program} {w : World} {K : PySem.W.Frag} {mg : Str → Option Value} {base : Heap} (T : Txt K mg) (G_size_of : Gd_size_of P w K mg base) (G_sums_of : Gd_sums_of P w K mg base) (G_sums_in : Gd_sums_in P w K mg base) (G_turns_near : Gd_turns_near P w K mg base) (G_put_on : Gd_put_on P w K mg base) (G_often : Gd_often P w K mg base) (G_test : Gd_has_fault P w K mg base) : Gd_found_in P w K mg base := by
  have z : Good P w K mg base 15 "found_in" ["sky", "items", "path", "state", "test", "thing", "look"] (sp_fin 0 P w K) := Good.none T.f_found_in (fun _ _ _ _ _ _ us hl => match us, hl with | [_, _, _, _, _, _, _], _ => rfl) fun vs H Q E h => by
    obtain ⟨s, wd, hid, a, lk, mm, v1, v2, v3, v4, v5, xs, d, path, m, e, nn, _, _, _, _, _, A, _⟩ := h
    have := A.dn
    omega
  have st : ∀ n k, 15 ≤ k → Good P w K mg base k "found_in" ["sky", "items", "path", "state", "test", "thing", "look"] (sp_fin n P w K) → Good P w K mg base (k + 1 + 1) "found_in" ["sky", "items", "path", "state", "test", "thing", "look"] (sp_fin (n + 1) P w K) := fun n k hk G =>
    st_found_in T (by omega) G_put_on G_sums_in G_size_of G_test (st_found_again T hk G_size_of G_sums_of G_turns_near G_put_on G_often G)
  exact st 3 21 (by decide) (st 2 19 (by decide) (st 1 17 (by decide) (st 0 15 (by decide) z)))

/-! ### first_where, looked_through -/
structure Free (s : Sky) (wd : Show) (xs : List Item) (d : Nat) (st : Stt) : Prop where
  hs : s.ok
  hw : wd.ok s
  so : st.ok s
  hl : st.hid.length ≤ 50
  ok : okL s d xs
  pl : plainL xs
  ln : xs.length ≤ 3
  d3 : d ≤ 3
  n1 : -1000 ≤ st.n
  n2 : st.n ≤ 1000
def sp_fw (P : Program) (w : World) (K : PySem.W.Frag) : Sp := fun vs H Q _ => ∃ s wd xs d st v1 v2 v3 v5, vs = [v1, v2, v3, .ref (He.ga K "has_fault"), v5] ∧ Dt K H v1 (eSky s) ∧ Dt K H v2 (eItemsT xs) ∧ Dt K H v3 (eStt st) ∧ Dt K H v5 (eShow wd) ∧ Free s wd xs d st ∧
  ∀ v H', Ex H H' → Dt K H' v (eIntO (firstWhere s wd xs st)) → Q v H'
theorem len_first_where {P : Program} {w : World} {K : PySem.W.Frag} : ∀ vs H Q E, sp_fw P w K vs H Q E → vs.length = ["sky", "scene", "state", "test", "thing"].length := fun vs H Q E h => by
  obtain ⟨s, wd, xs, d, st, v1, v2, v3, v5, rfl, _⟩ := h
  rfl
abbrev Gd_first_where (P : Program) (w : World) (K : PySem.W.Frag) (mg : Str → Option Value) (base : Heap) : Prop := Good P w K mg base 24 "first_where" ["sky", "scene", "state", "test", "thing"] (sp_fw P w K)
theorem ok_first_where {P : Program} {w : World} {K : PySem.W.Frag} {mg : Str → Option Value} {base : Heap} (T : Txt K mg) (G_found_in : Gd_found_in P w K mg base) (G_round_of : Gd_round_of P w K mg base) (G_turns_of : Gd_turns_of P w K mg base) (G_test : Gd_has_fault P w K mg base) : Gd_first_where P w K mg base := by
  refine Good.of T.f_first_where sc_first_where (fun _ _ _ _ _ _ us hl => match us, hl with | [_, _, _, _, _], _ => rfl) len_first_where fun cdv A outer s H vs Q E hr h => ?_
  refine ⟨_, (pss_cons (ps_if (pt_val (pe_callLG G_test (hr.mono (by omega)) (i := 3) (pa_cons (pv 0) (pa_cons (pv 4) (pa_cons (pv 2) pa_nil))))) (pss_one (ps_ret pe_int)) pss_nil)
    (pss_one (ps_ret (pe_g G_found_in (hr.mono (by omega)) (pa_cons (pv 0) (pa_cons (pv 1) (pa_cons (pe_tup pa_nil) (pa_cons (pv 2) (pa_cons (pv 3) (pa_cons (pv 4) (pa_cons (pe_tup (pa_cons (pe_g G_round_of (hr.mono (by omega)) (pa_cons (pv 0) pa_nil)) (pa_cons (pe_g G_turns_of (hr.mono (by omega)) (pa_cons (pv 0) pa_nil)) (pa_cons pe_dnewX pa_nil)))) pa_nil))))))))))), ?_⟩
  obtain ⟨s, wd, xs, d, st, v1, v2, v3, v5, rfl, h1, h2, h3, h5, F, hq⟩ := h
  have hs := F.hs
  have d3 := F.d3
  have p := p12_pos d
  have q := p12_le d3
  have n1 := F.n1
  have n2 := F.n2
  refine sq_ifN (b := hasFault s wd st) (eb_val (K := K) (ed_callL rfl (ea_cons (ed_var rfl h1) (ea_cons (ed_var rfl h5) (ea_cons (ed_var rfl h3) ea_nil))) (.mk s wd st hs F.hw.fit))) (fun z H1 e1 => ?_) fun z H1 e1 => ?_
  · refine sd_ret (K := K) (ed_int (i := 0)) fun v H2 e2 kv => hq v H2 (e1.trans e2) ?_
    unfold firstWhere
    rw [if_pos z]
    exact kv
  · have h1 := h1.ex e1
    have h2 := h2.ex e1
    have h3 := h3.ex e1
    have h5 := h5.ex e1
    have ef : firstWhere s wd xs st = (findIn (cfg s wd st.hid) xs [] st.m st.e st.n []).1 := by
      unfold firstWhere
      rw [z]
      exact if_neg Bool.false_ne_true
    rw [ef] at hq
    refine sd_retM (ta_v rfl (ta_v rfl (ta_d (K := K) (d := eL []) (ed_tup ea_nil) fun vp H2 e2 kp => ta_v rfl (ta_v rfl (ta_v rfl ?_)))))
    have h1 := h1.ex e2
    refine ed_call (K := K) (R := R_round_of) (ea_cons (ed_var rfl h1) ea_nil) (.mk s hs) H2 (Tx.refl _) _ fun x1 H3 e3 k1 => ?_
    have h1 := h1.ex e3
    refine ed_call (K := K) (R := R_turns_of) (ea_cons (ed_var rfl h1) ea_nil) (.mk s hs) H3 (Tx.refl _) _ fun x2 H4 e4 k2 => ?_
    cases k1; cases k2
    intro a H5 ha e5 dx
    refine ⟨sz_of (Nat.le_of_ble_eq_true rfl), fun lk hlk => ?_⟩
    have e6 : Ex H5 (upd H5 lk (.tup [.int (roundOf s : Int), .int (turnsOf s), .ref a])) := Ex.new hlk
    have eT := (((e2.trans e3).trans e4).trans e5).trans e6
    have tl := twelve_le d3
    refine ⟨s, wd, st.hid, a, lk, [], v1, v2, vp, v3, v5, xs, d, [], st.m, st.e, st.n, rfl, ⟨hs, F.hw.fit, F.so.rise, F.hl, ((h1.ex e4).ex e5).ex e6, h5.ex eT, st_of upd_same, dx.mono e6⟩, h2.ex eT, kp.ex (((e3.trans e4).trans e5).trans e6), h3.ex eT, ⟨F.ok, F.pl, F.ln, by omega, by decide, by rw [List.length_nil]; omega, by rw [List.length_nil]; omega, by omega, by omega⟩, fun v H7 xB xT dx7 kv => ?_⟩
    refine hq v H7 (fun b o hb => ?_) kv
    have hb5 := (((e1.trans e2).trans e3).trans e4) b o hb
    have nb : b ≠ a := fun z => by
      subst z
      rw [ha] at hb5
      cases hb5
    exact xB b o nb ((e5.trans e6) b o hb5)

def lookOk (s : Sky) (wd : Show) (xs : List Item) (st : Stt) : Prop := ∀ b, firstWhere s wd xs st = some b → 0 ≤ b ∧ b ≤ sizeL xs ∧ hasFault s wd (putOn st (sumsTo xs b)) = true
def eLook (s : Sky) (wd : Show) (xs : List Item) (st : Stt) : PyData := match firstWhere s wd xs st with
  | none => .tuple [.str "true", .int (sizeL xs)]
  | some b => .tuple ([.str "breaks", .int b] ++ match faultBy s wd (putOn st (sumsTo xs b)) with
    | some (k, x) => [.int k, .str x]
    | none => [])
inductive R_looked_through : List PyData → PyData → Prop
  | mk (s : Sky) (wd : Show) (xs : List Item) (d : Nat) (st : Stt) : Free s wd xs d st → lookOk s wd xs st → R_looked_through [eSky s, eShow wd, eItemsT xs, eStt st] (eLook s wd xs st)
abbrev sp_looked_through (K : PySem.W.Frag) : Sp := spP K R_looked_through
abbrev Gd_looked_through (P : Program) (w : World) (K : PySem.W.Frag) (mg : Str → Option Value) (base : Heap) : Prop := Good P w K mg base 25 "looked_through" ["sky", "show", "scene", "state"] (sp_looked_through K)
theorem ok_looked_through {P : Program} {w : World} {K : PySem.W.Frag} {mg : Str → Option Value} {base : Heap} (T : Txt K mg) (G_need_show : Gd_need_show P w K mg base) (G_need_scene : Gd_need_scene P w K mg base) (G_need_state : Gd_need_state P w K mg base) (G_first_where : Gd_first_where P w K mg base) (G_has_fault : Gd_has_fault P w K mg base) (G_fault_by : Gd_fault_by P w K mg base) (G_size_of : Gd_size_of P w K mg base) (G_led_by : Gd_led_by P w K mg base) : Gd_looked_through P w K mg base := by
  refine Good.of T.f_looked_through sc_looked_through (fun _ _ _ _ _ _ us hl => match us, hl with | [_, _, _, _], _ => rfl) (spP_len fun ds d hR => by cases hR <;> rfl) fun cdv A outer s H vs Q E hr h => ?_
  refine ⟨_, (pss_cons (ps_expr (pe_g G_need_show (hr.mono (by omega)) (pa_cons (pv 0) (pa_cons (pv 1) pa_nil))))
    (pss_cons (ps_expr (pe_g G_need_scene (hr.mono (by omega)) (pa_cons (pv 0) (pa_cons (pv 2) pa_nil))))
    (pss_cons (ps_expr (pe_g G_need_state (hr.mono (by omega)) (pa_cons (pv 0) (pa_cons (pv 3) pa_nil))))
    (pss_cons (ps_set (i := 4) sc_looked_through.nd rfl (.inl rfl) (pe_g G_first_where (hr.mono (by omega)) (pa_cons (pv 0) (pa_cons (pv 2) (pa_cons (pv 3) (pa_cons (pe_gf G_has_fault) (pa_cons (pv 1) pa_nil)))))))
    (pss_cons (ps_if (pt_cmpR op_isN (pv 4) pe_non (nomark _)) (pss_one (ps_ret (pe_tup (pa_cons pe_str (pa_cons (pe_g G_size_of (hr.mono (by omega)) (pa_cons (pv 2) pa_nil)) pa_nil))))) pss_nil)
    (pss_one (ps_ret (pe_op op_catA (pe_tup (pa_cons pe_str (pa_cons (pv 4) pa_nil))) (pe_g G_fault_by (hr.mono (by omega)) (pa_cons (pv 0) (pa_cons (pv 1) (pa_cons (pe_g G_led_by (hr.mono (by omega)) (pa_cons (pv 2) (pa_cons (pv 3) (pa_cons (pv 4) pa_nil)))) pa_nil)))))))))))), ?_⟩
  obtain ⟨ds, d, ha, hR, hq⟩ := h
  cases hR with
  | mk s wd xs d st F hok =>
  obtain ⟨v1, v2, v3, v4, rfl, h1, h2, h3, h4⟩ := ha.c4
  have hs := F.hs
  have ln := F.ln
  have fit : Fit s xs d := ⟨F.ok, fun x hx => .inl (plainL_mem F.pl x hx), by omega, F.d3⟩
  refine sq_drop (ed_call (ea_cons (ed_var rfl h1) (ea_cons (ed_var rfl h2) ea_nil)) (.mk s wd hs F.hw)) fun H1 e1 => ?_
  refine sq_drop (ed_call (ea_cons (ed_var rfl (h1.ex e1)) (ea_cons (ed_var rfl (h3.ex e1)) ea_nil)) (.mk s xs d hs F.ok (by omega) F.d3)) fun H2 e2 => ?_
  have e12 := e1.trans e2
  refine sq_drop (ed_call (ea_cons (ed_var rfl (h1.ex e12)) (ea_cons (ed_var rfl (h4.ex e12)) ea_nil)) (.mk s st hs F.so (by have := F.hl; omega))) fun H3 e3 => ?_
  have e13 := e12.trans e3
  have h1 := h1.ex e13
  have h2 := h2.ex e13
  have h3 := h3.ex e13
  have h4 := h4.ex e13
  refine sq_callM (ta_v rfl (ta_v rfl (ta_v rfl (ta_nilC (ta_v rfl (ta_nil ?_))))))
  refine ⟨s, wd, xs, d, st, v1, v3, v4, v2, rfl, h1, h3, h4, h2, F, fun v H4 e4 kv => ?_⟩
  have h1 := h1.ex e4
  have h2 := h2.ex e4
  have h3 := h3.ex e4
  have h4 := h4.ex e4
  have eT := e13.trans e4
  cases ef : firstWhere s wd xs st with
  | none =>
    rw [ef] at kv
    have el : eLook s wd xs st = .tuple [.str "true", .int (sizeL xs)] := by unfold eLook; rw [ef]
    rw [el] at hq
    refine sq_ifN (b := true) (eb_val (K := K) (ed_isN (ed_var rfl kv))) (fun _ H5 e5 => ?_) fun z => nomatch z
    exact sd_ret (ed_tup (ea_cons ed_str (ea_cons (ed_call (ea_cons (ed_var rfl (h3.ex e5)) ea_nil) (.mk s xs d F.ok (by have := F.d3; omega))) ea_nil))) fun v H6 e6 => hq v H6 ((eT.trans e5).trans e6)
  | some b =>
    rw [ef] at kv
    obtain ⟨b0, b1, hb⟩ := hok b ef
    have sz := size_small F.ok (by omega) F.d3
    unfold hasFault at hb
    cases efb : faultBy s wd (putOn st (sumsTo xs b)) with
    | none => rw [efb] at hb; cases hb
    | some kx =>
      obtain ⟨k, x⟩ := kx
      have el : eLook s wd xs st = .tuple ([.str "breaks", .int b] ++ [.int k, .str x]) := by unfold eLook; rw [ef]; dsimp only; rw [efb]
      rw [el] at hq
      refine sq_ifN (b := false) (eb_val (K := K) (ed_isN (ed_var rfl kv))) (fun z => nomatch z) fun _ H5 e5 => ?_
      refine sd_ret (ed_cat (ed_tup (ea_cons ed_str (ea_cons (ed_var rfl (kv.ex e5)) ea_nil))) (es := [.int k, .str x]) (ed_is (ed_call (ea_cons (ed_var rfl (h1.ex e5)) (ea_cons (ed_var rfl (h2.ex e5)) (ea_cons (ed_call (ea_cons (ed_var rfl (h3.ex e5)) (ea_cons (ed_var rfl (h4.ex e5)) (ea_cons (ed_var rfl (kv.ex e5)) ea_nil))) (.mk s xs d st b fit (by omega) F.hl)) ea_nil))) (.mk s wd (putOn st (sumsTo xs b)) hs F.hw.fit)) (by rw [efb]; rfl))) fun v H6 e6 => hq v H6 ((eT.trans e5).trans e6)
end Dome
/-! the law's draws -/
namespace Dome
open PySem PySem.Spec PyProof.Rows L2 Evl

inductive R__law_pen : List PyData → List PyData → Prop
  | mk (c : Int) : R__law_pen [.int c] [.int (if c - 10 ^ 18 > 0 then c - 10 ^ 18 else 0), .int (c % 1000000007), .int 0]
abbrev sp__law_pen (K : PySem.W.Frag) : Sp := spL K R__law_pen
theorem len__law_pen {K : PySem.W.Frag} : ∀ vs H Q E, sp__law_pen K vs H Q E → vs.length = ["_law_cell_here"].length := spL_len fun ds d hR => by cases hR <;> rfl
abbrev Gd__law_pen (P : Program) (w : World) (K : PySem.W.Frag) (mg : Str → Option Value) (base : Heap) : Prop := Good P w K mg base 1 "_law_pen" ["_law_cell_here"] (sp__law_pen K)
theorem ok__law_pen {P : Program} {w : World} {K : PySem.W.Frag} {mg : Str → Option Value} {base : Heap} (T : Txt K mg) : Gd__law_pen P w K mg base := by
  refine Good.of T.f__law_pen sc__law_pen (fun _ _ _ _ _ _ us hl => match us, hl with | [_], _ => rfl) len__law_pen fun cdv A outer s H vs Q E hr h => ?_
  refine ⟨_, (pss_one (ps_ret (pe_lst (pa_cons (pe_callB (call_max2 rfl) rfl (T.b_max) (by decide +kernel) (pa_cons pe_int (pa_cons (pe_op op_sub (pv 0) (pe_op op_pow pe_int pe_int)) pa_nil))) (pa_cons (pe_op op_mod (pv 0) pe_int) (pa_cons pe_int pa_nil)))))), ?_⟩
  obtain ⟨ds, d, ha, hR, hq⟩ := h
  cases hR with
  | mk c =>
  obtain ⟨v1, rfl, h1⟩ := ha.c1
  exact sd_retL (el_lst (ea_cons (ed_max2 ed_int (ed_sub (ed_var rfl h1) (ed_pow ed_int ed_int ⟨by decide, by decide, by decide⟩))) (ea_cons (ed_mod (ed_var rfl h1) ed_int (by decide)) (ea_cons ed_int ea_nil)))) hq

def A_draw (m : Int) (ds : List PyData) : Prop := ds = [.int m] ∧ 1 ≤ m ∧ m < 1073741824
abbrev sp__law_draw (K : PySem.W.Frag) : Sp := spG K 1 A_draw fun m d => IntIn 0 (m - 1) d
theorem len__law_draw {K : PySem.W.Frag} : ∀ vs H Q E, sp__law_draw K vs H Q E → vs.length = ["_law_pen_here", "_law_many"].length := spG_len (m := 1) fun x ds h => by rw [h.1]; rfl
theorem Go.set {p : Addr} {H H1 : Hp} {a b c : Int} {xs : List V} {n : Nat} (e : Ex H H1) (hp : H1 p = some (.lst xs)) (h0 : 0 ≤ a) (h1 : 0 ≤ b) (h2 : b < 1000000007) (h3 : 0 ≤ c) (h4 : c ≤ (n : Int)) : Go p H (upd H1 p (.lst [.int a, .int b, .int c])) n :=
  ⟨fun x o hx ho => by rw [upd_ne hx]; exact e x o ho, (Tx.of e).trans (Tx.lst hp), a, b, c, upd_same, h0, h1, h2, h3, h4⟩
abbrev Gd__law_draw (P : Program) (w : World) (K : PySem.W.Frag) (mg : Str → Option Value) (base : Heap) : Prop := Good P w K mg base 1 "_law_draw" ["_law_pen_here", "_law_many"] (sp__law_draw K)
theorem ok__law_draw {P : Program} {w : World} {K : PySem.W.Frag} {mg : Str → Option Value} {base : Heap} (T : Txt K mg) : Gd__law_draw P w K mg base := by
  refine Good.of T.f__law_draw sc__law_draw (fun _ _ _ _ _ _ us hl => match us, hl with | [_, _], _ => rfl) len__law_draw fun cdv A outer s H vs Q E hr h => ?_
  refine ⟨_, (pss_cons (ps_if (pt_cmpR op_gt (pe_ix (show IxR _ (rIxL K) from ix_list) (pv 0) pe_int (fun _ _ => rfl)) pe_int (nomark _)) (pss_cons (ps_set (i := 2) sc__law_draw.nd rfl (.inl rfl) (pe_op op_mod (pe_ix (show IxR _ (rIxL K) from ix_list) (pv 0) pe_int (fun _ _ => rfl)) (pv 1)))
    (pss_cons (ps_asg (pe_op op_fdiv (pe_ix (show IxR _ (rIxL K) from ix_list) (pv 0) pe_int (fun _ _ => rfl)) (pv 1)) (pg_sub (pv 0) pe_int set_list))
    (pss_one (ps_ret (pv 2))))) pss_nil)
    (pss_cons (ps_asg (pe_op op_add (pe_ix (show IxR _ (rIxL K) from ix_list) (pv 0) pe_int (fun _ _ => rfl)) pe_int) (pg_sub (pv 0) pe_int set_list))
    (pss_cons (ps_set (i := 3) sc__law_draw.nd rfl (.inl rfl) (pe_op op_mod (pe_op op_mul (pe_op op_add (pe_ix (show IxR _ (rIxL K) from ix_list) (pv 0) pe_int (fun _ _ => rfl)) (pe_op op_mul pe_int (pe_ix (show IxR _ (rIxL K) from ix_list) (pv 0) pe_int (fun _ _ => rfl)))) (pe_op op_add pe_int (pe_op op_mul pe_int (pe_ix (show IxR _ (rIxL K) from ix_list) (pv 0) pe_int (fun _ _ => rfl))))) pe_int))
    (pss_cons (ps_set (i := 3) sc__law_draw.nd rfl (.inl rfl) (pe_op op_mod (pe_op op_add (pe_op op_add (pe_op op_mul (pv 3) (pv 3)) (pe_op op_mul pe_int (pe_ix (show IxR _ (rIxL K) from ix_list) (pv 0) pe_int (fun _ _ => rfl)))) pe_int) pe_int))
    (pss_one (ps_ret (pe_op op_mod (pe_op op_fdiv (pe_op op_mod (pe_op op_mul (pv 3) pe_int) pe_int) pe_int) (pv 1)))))))), ?_⟩
  obtain ⟨p, ws, ds, n, m, rfl, ha, ⟨rfl, m1, m2⟩, ⟨a, b, c, hp, a0, b0, b1, c0, c1⟩, hn, hq⟩ := h
  obtain ⟨v2, rfl, h2⟩ := ha.c1
  cases h2
  have hl : n ≤ 1099511627776 := Nat.le_trans (Nat.le_add_right n 1) hn
  refine sq_ifNX (b := decide (0 < a)) (xb_val (K := K) (xb_gt (xd_ixV (j := 0) rfl hp rfl) fun H1 e1 => xd_int)) (fun z H1 e1 => ?_) fun z H1 e1 => ?_
  · have z0 := of_decide_eq_true z
    have hp1 := e1 _ _ hp
    refine sq_asgX (K := K) (xd_mod (xd_ixV (j := 0) rfl hp1 rfl) (fun H2 e2 => xd_v rfl (.int m)) (by omega)) fun v H2 e2 kv => ?_
    cases kv
    have hp2 := e2 _ _ hp1
    refine sq_setL (K := K) (xd_fdiv (xd_ixV (j := 0) rfl hp2 rfl) (fun H3 e3 => xd_v rfl (.int m)) ⟨by omega, by omega⟩) rfl hp2 (j := 0) rfl fun v H3 e3 kv => ?_
    cases kv
    have hp3 := e3 _ _ hp2
    have q0 : 0 ≤ a / m := Int.ediv_nonneg a0 (by omega)
    have g : Go p H (upd H3 p (.lst [.int (a / m), .int b, .int c])) (n + 1) := Go.set ((e1.trans e2).trans e3) hp3 q0 b0 b1 c0 (by omega)
    have r0 : 0 ≤ a % m := Int.emod_nonneg _ (by omega)
    have r1 : a % m < m := Int.emod_lt_of_pos _ (by omega)
    exact sd_ret (K := K) (d := .int (a % m)) (ed_var rfl (.int _)) fun v H4 e4 kv => hq v H4 _ (g.ex e4) kv ⟨a % m, rfl, r0, by omega⟩
  · have hp1 := e1 _ _ hp
    refine sq_setL (K := K) (xd_add (xd_ixV (j := 2) rfl hp1 rfl) fun H2 e2 => xd_int) rfl hp1 (j := 2) rfl fun v H2 e2 kv => ?_
    cases kv
    have hp2 := e2 _ _ hp1
    have g : Go p H (upd H2 p (.lst [.int a, .int b, .int (c + 1)])) (n + 1) := Go.set (e1.trans e2) hp2 a0 b0 b1 (by omega) (by omega)
    have hp3 : (upd H2 p (.lst [.int a, .int b, .int (c + 1)])) p = some (.lst [.int a, .int b, .int (c + 1)]) := upd_same
    refine sq_asgX (K := K) (d := .int ((b + 17 * (c + 1)) * (69621 + 2 * (c + 1)) % 2147483647)) (xd_mod (xd_mul (xd_add (xd_ixV (j := 1) rfl hp3 rfl) fun H3 e3 => xd_mul xd_int (fun H4 e4 => xd_ixV (j := 2) rfl ((e3.trans e4) _ _ hp3) rfl) (.inl ⟨by decide, by decide⟩)) (fun H3 e3 => xd_add xd_int fun H4 e4 => xd_mul xd_int (fun H5 e5 => xd_ixV (j := 2) rfl (((e3.trans e4).trans e5) _ _ hp3) rfl) (.inl ⟨by decide, by decide⟩)) (.inl ⟨by omega, by omega⟩)) (fun H3 e3 => xd_int) (by decide)) fun v H3 e3 kv => ?_
    cases kv
    have s0 : 0 ≤ (b + 17 * (c + 1)) * (69621 + 2 * (c + 1)) % 2147483647 := Int.emod_nonneg _ (by decide)
    have s1 : (b + 17 * (c + 1)) * (69621 + 2 * (c + 1)) % 2147483647 < 2147483647 := Int.emod_lt_of_pos _ (by decide)
    revert s0 s1
    generalize (b + 17 * (c + 1)) * (69621 + 2 * (c + 1)) % 2147483647 = s
    intro s0 s1
    have hp4 := e3 _ _ hp3
    refine sq_asgX (K := K) (d := .int ((s * s + 40503 * (c + 1) + 5) % 2147483629)) (xd_mod (xd_add (xd_add (xd_mul (xd_v rfl (.int s)) (fun H4 e4 => xd_v rfl (.int s)) (.inl ⟨by omega, by omega⟩)) fun H4 e4 => xd_mul xd_int (fun H5 e5 => xd_ixV (j := 2) rfl ((e4.trans e5) _ _ hp4) rfl) (.inl ⟨by decide, by decide⟩)) fun H4 e4 => xd_int) (fun H4 e4 => xd_int) (by decide)) fun v H4 e4 kv => ?_
    cases kv
    have r0 : 0 ≤ (s * s + 40503 * (c + 1) + 5) % 2147483629 * 48271 % 2147483647 / 32 % m := Int.emod_nonneg _ (by omega)
    have r1 : (s * s + 40503 * (c + 1) + 5) % 2147483629 * 48271 % 2147483647 / 32 % m < m := Int.emod_lt_of_pos _ (by omega)
    exact sd_ret (K := K) (ed_mod (ed_fdiv (ed_mod (ed_mul (ed_var rfl (.int _)) ed_int (.inr ⟨by decide, by decide⟩)) ed_int (by decide)) ed_int ⟨by decide, by decide⟩) (ed_var rfl (.int m)) (by omega)) fun v H5 e5 kv => hq v H5 _ (g.ex ((e3.trans e4).trans e5)) kv ⟨_, rfl, r0, by omega⟩
section
variable {K : PySem.W.Frag} {p : Addr} {σ : L2.St} {H : Hp} {tb : TE} {E : XK} {k : Nat} {i : Nat}
/-- a draw below m -/
theorem em_draw {m : Int} (hv : σ[i]? = some (some (.ref p))) (h : Ed K tb σ H (.int m)) (m1 : 1 ≤ m) (m2 : m < 1073741824) : Em K p (tCall (sp__law_draw K) [] E (tCons (tVar i) (tCons tb tNil))) σ H 1 (IntIn 0 (m - 1)) :=
  (em_call hv (ema_cons (em_of h) ema_nil) fun ds hd => by
    obtain ⟨d, r, rfl, rfl, rfl⟩ := hd
    exact ⟨m, ⟨rfl, m1, m2⟩, fun d h => h⟩).imp (by omega) fun d h => h
theorem em_drawM {M : Int} (hv : σ[i]? = some (some (.ref p))) (h : Em K p tb σ H k (IntIn 1 M)) (m2 : M < 1073741824) : Em K p (tCall (sp__law_draw K) [] E (tCons (tVar i) (tCons tb tNil))) σ H (k + 1) (IntIn 0 (M - 1)) :=
  (em_call hv (ema_cons h ema_nil) fun ds hd => by
    obtain ⟨d, r, rfl, ⟨m, rfl, m1, m3⟩, rfl⟩ := hd
    refine ⟨m, ⟨rfl, m1, by omega⟩, fun d h => ?_⟩
    obtain ⟨j, rfl, j0, j1⟩ := h
    exact ⟨j, rfl, j0, by omega⟩).imp (by omega) fun d h => h
theorem em_c {j : Int} {te : TE} (h : Ed K te σ H (.int j)) {a b : Int} (h1 : a ≤ j) (h2 : j ≤ b) : Em K p te σ H 0 (IntIn a b) := (em_int h).imp (Nat.le_refl _) fun d ⟨i, e, i1, i2⟩ => ⟨i, e, by omega, by omega⟩
theorem em_r {te : TE} {a b c d : Int} (h : Em K p te σ H k (IntIn a b)) (h1 : c ≤ a) (h2 : b ≤ d) : Em K p te σ H k (IntIn c d) := h.imp (Nat.le_refl _) fun x ⟨i, e, i1, i2⟩ => ⟨i, e, by omega, by omega⟩
def AllIn (m : Nat) (a b : Int) (ds : List PyData) : Prop := ds.length = m ∧ ∀ d ∈ ds, IntIn a b d
theorem emi_nil {a b : Int} : Ema K p tNil σ H 0 (AllIn 0 a b) := fun H1 t n pn hn Q q => ema_nil H1 t n pn hn Q fun vs H2 ds g ks e => q vs H2 ds g ks ⟨by rw [e]; rfl, by rw [e]; intro d h; nomatch h⟩
theorem emi_cons {a b : Int} {te : TE} {aa : TA} {m k1 k2 : Nat} (h : Em K p te σ H k1 (IntIn a b)) (hr : Ema K p aa σ H k2 (AllIn m a b)) : Ema K p (tCons te aa) σ H (k1 + k2) (AllIn (m + 1) a b) := fun H1 t n pn hn Q q => ema_cons h hr H1 t n pn hn Q fun vs H2 ds g ks e => q vs H2 ds g ks (by
  obtain ⟨d, r, rfl, r1, r2, r3⟩ := e
  refine ⟨by rw [List.length_cons, r2], fun x hx => ?_⟩
  rcases List.mem_cons.mp hx with rfl | hx
  · exact r1
  · exact r3 x hx)
theorem em_pick {a b : Int} {aa : TA} {tb : TE} {m k1 k2 : Nat} (h1 : Ema K p aa σ H k1 (AllIn m a b)) (h2 : Em K p tb σ H k2 (IntIn 0 ((m : Int) - 1))) (hm : m ≤ 1000) : Em K p (tOp (rIxL K) (tLst aa) tb) σ H (k1 + k2) (IntIn a b) :=
  (em_ixL h1 h2 (fun ds h => h.1) hm).imp (Nat.le_refl _) fun d ⟨ds, h, hd⟩ => h.2 d hd
end

/-! ### a sky -/
def A_sky (_ : Unit) (ds : List PyData) : Prop := ds = [.int 4]
def P_sky (d : PyData) : Prop := ∃ s : Sky, d = eSky s ∧ s.ok ∧ s.lights.length ≤ 4
abbrev sp__law_sky (K : PySem.W.Frag) : Sp := spG K 50 A_sky fun _ d => P_sky d
theorem len__law_sky {K : PySem.W.Frag} : ∀ vs H Q E, sp__law_sky K vs H Q E → vs.length = ["_law_pen_here", "_law_most"].length := spG_len (m := 1) fun x ds h => by rw [show ds = [.int 4] from h]; rfl
theorem ints_of {lo hi : Int} : ∀ {ds : List PyData}, (∀ d ∈ ds, IntIn lo hi d) → ∃ ns : List Int, ds = ns.map .int ∧ ∀ x ∈ ns, lo ≤ x ∧ x ≤ hi
  | [], _ => ⟨[], rfl, fun x h => nomatch h⟩
  | d :: ds, h => by
    obtain ⟨i, rfl, i1, i2⟩ := h d List.mem_cons_self
    obtain ⟨ns, rfl, hn⟩ := ints_of fun x hx => h x (List.mem_cons_of_mem _ hx)
    refine ⟨i :: ns, rfl, fun x hx => ?_⟩
    rcases List.mem_cons.mp hx with rfl | hx
    · exact ⟨i1, i2⟩
    · exact hn x hx
def EachIn (lo hi : Int) (i : Nat) (ds : List PyData) : Prop := ds.length = i ∧ ∀ d ∈ ds, IntIn lo hi d
theorem EachIn.snoc {lo hi : Int} {i : Nat} {ds : List PyData} {d : PyData} (h : EachIn lo hi i ds) (hd : IntIn lo hi d) : EachIn lo hi (i + 1) (ds ++ [d]) := by
  refine ⟨by rw [List.length_append, h.1]; rfl, fun x hx => ?_⟩
  rcases List.mem_append.mp hx with hx | hx
  · exact h.2 x hx
  · rcases List.mem_cons.mp hx with rfl | hx
    · exact hd
    · nomatch hx
theorem EachIn.zero {lo hi : Int} : EachIn lo hi 0 [] := ⟨rfl, fun d h => nomatch h⟩
theorem dta_snoc_map {α : Type} {enc : α → PyData} {xs : List α} {x : α} : xs.map enc ++ [enc x] = (xs ++ [x]).map enc := by rw [List.map_append]; rfl
abbrev Gd__law_sky (P : Program) (w : World) (K : PySem.W.Frag) (mg : Str → Option Value) (base : Heap) : Prop := Good P w K mg base 2 "_law_sky" ["_law_pen_here", "_law_most"] (sp__law_sky K)
theorem ok__law_sky {P : Program} {w : World} {K : PySem.W.Frag} {mg : Str → Option Value} {base : Heap} (T : Txt K mg) (G__law_draw : Gd__law_draw P w K mg base) : Gd__law_sky P w K mg base := by
  refine Good.of T.f__law_sky sc__law_sky (fun _ _ _ _ _ _ us hl => match us, hl with | [_, _], _ => rfl) len__law_sky fun cdv A outer s H vs Q E hr h => ?_
  refine ⟨_, (pss_cons (ps_asg (pe_tup (pa_cons (pe_op op_add pe_int (pe_g G__law_draw (hr.mono (by omega)) (pa_cons (pv 0) (pa_cons pe_int pa_nil)))) (pa_cons (pe_op op_add pe_int (pe_g G__law_draw (hr.mono (by omega)) (pa_cons (pv 0) (pa_cons pe_int pa_nil)))) pa_nil))) (show PG _ _ (gTup K 2 (gCons (gName 2) (gCons (gName 3) gNil))) from pg_tup rfl (pgs_cons (pg_name (i := 2) sc__law_sky.nd rfl (.inl rfl)) (pgs_cons (pg_name (i := 3) sc__law_sky.nd rfl (.inr rfl)) pgs_nil))))
    (pss_cons (ps_set (i := 4) sc__law_sky.nd rfl (.inl rfl) (pe_lst pa_nil))
    (pss_cons (ps_for PassesOwn.never rfl (pi_range1 rfl (T.b_range) (pa_cons (pe_op op_add pe_int (pe_g G__law_draw (hr.mono (by omega)) (pa_cons (pv 0) (pa_cons (pv 1) pa_nil)))) pa_nil)) (pg_name (i := 5) sc__law_sky.nd rfl (.inl rfl)) (pss_cons (ps_set (i := 6) sc__law_sky.nd rfl (.inl rfl) (pe_callTy call_tuple_of rfl (T.b_tuple) (by decide +kernel) (pa_cons (pe_lc rfl sc__law_sky.nd (pi_range1 rfl (T.b_range) (pa_cons (pe_op op_add pe_int (pe_g G__law_draw (hr.mono (by omega)) (pa_cons (pv 0) (pa_cons (pe_ix (show IxR _ (rIxL K) from ix_list) (pe_lst (pa_cons pe_int (pa_cons pe_int (pa_cons pe_int pa_nil)))) (pe_g G__law_draw (hr.mono (by omega)) (pa_cons (pv 0) (pa_cons pe_int pa_nil))) (fun _ _ => rfl)) pa_nil)))) pa_nil)) (blkOk_by (own := [("_law_turn", 7)]) (N := N__law_sky) (sc := defScope s__law_sky) (by decide +kernel)) (fun _ _ _ _ _ => (pg_name (i := 7) sc__law_sky.nd rfl (.inl rfl))) (fun _ _ _ _ _ => pts_nil) (fun _ _ _ _ _ => (pe_g G__law_draw (hr.mono (by omega)) (pa_cons (pv 0) (pa_cons (pv 3) pa_nil))))) pa_nil)))
    (pss_one (ps_expr (pe_bm PySem.F.plainAttrs_list PySem.F.slot_list_append PySem.F.type_list_append mt_append (pv 4) (pa_cons (pe_tup (pa_cons (pe_g G__law_draw (hr.mono (by omega)) (pa_cons (pv 0) (pa_cons (pv 2) pa_nil))) (pa_cons (pe_ix (show IxR _ (rIxL K) from ix_list) (pe_lst (pa_cons pe_int (pa_cons pe_int (pa_cons (pe_op op_sub (pe_g G__law_draw (hr.mono (by omega)) (pa_cons (pv 0) (pa_cons pe_int pa_nil))) pe_int) pa_nil)))) (pe_g G__law_draw (hr.mono (by omega)) (pa_cons (pv 0) (pa_cons pe_int pa_nil))) (fun _ _ => rfl)) (pa_cons (pv 6) pa_nil)))) pa_nil))))))
    (pss_one (ps_ret (pe_tup (pa_cons (pv 2) (pa_cons (pv 3) (pa_cons (pe_callTy call_tuple_of rfl (T.b_tuple) (by decide +kernel) (pa_cons (pv 4) pa_nil)) pa_nil))))))))), ?_⟩
  obtain ⟨p, ws, ds, n, ux, rfl, ha, rfl, pn, hn, hq⟩ := h
  obtain ⟨v2, rfl, h2⟩ := ha.c1
  cases h2
  refine sq_un2M (K := K) (p := p) (R := fun d1 d2 => IntIn 4 12 d1 ∧ IntIn 1 5 d2) ((em_tup (ema_cons (em_cadd ed_int (em_draw rfl ed_int (by decide) (by decide))) (ema_cons (em_cadd ed_int (em_draw rfl ed_int (by decide) (by decide))) ema_nil)) ?_).imp (k1 := 2) (by decide) ?_) pn (by omega) fun v1 u1 H1 d1 d2 g1 kw kh rr => ?_
  · rintro ds ⟨d, r, rfl, _, d', r', rfl, _, rfl⟩
    exact Nat.le_of_ble_eq_true rfl
  · rintro d ⟨ds, rfl, d1, r, rfl, r1, d2, r', rfl, r2, rfl⟩
    exact ⟨d1, d2, rfl, r1, r2⟩
  obtain ⟨⟨wide, rfl, w1, w2⟩, high, rfl, hh1, hh2⟩ := rr
  cases kw; cases kh
  refine sq_asgL (K := K) (el_lst ea_nil) fun q xs H2 hq0 e2 hx kx => ?_
  have g2 := g1.ex e2
  have nq := g1.pn.ne hq0
  cases kx
  refine sq_forRM (K := K) (p := p) (em_cadd ed_int (em_draw rfl (ed_var rfl (.int 4)) (by decide) (by decide))) (by decide) (by decide) g2.pn (by omega) fun cnt H3 c1 c2 g3 => ?_
  have g13 := (g2.trans g3)
  refine ⟨fun i σ' H' => ∃ xs : List V, ∃ ls : List Light, ∃ c5 c6 c7 : Option V, σ' = [some (.ref p), some (.int 4), some (.int wide), some (.int high), some (.ref q), c5, c6, c7] ∧ Go p H H' (n + 3 + i * 9) ∧ H' q = some (.lst xs) ∧ DtA K H' xs (ls.map eLight) ∧ ls.length = i ∧ ∀ l ∈ ls, l.ok wide high,
    ⟨[], [], none, none, none, rfl, g13.mono (by omega), g3.xB q _ nq hx, .nil, rfl, fun l h => nomatch h⟩, fun i σ' H' hi pv => ?_, fun σ' H' pv => ?_⟩
  · obtain ⟨xs, ls, c5, c6, c7, rfl, gi, hx, kx, el, hl⟩ := pv
    have i4 : i ≤ 3 := by omega
    refine sq_asgM (p := p) (em_tuple (elm_lcR (lo := 1) (hi := 4) (k1 := 0) (k2 := 1) (B := fun b => b = true) (fun _ d => IntIn 0 (high - 1) d) (EachIn 0 (high - 1)) EachIn.zero (fun i ds b => nomatch b) (fun i ds d h r => h.snoc r) (k := 2) (em_r ((em_cadd (ed_int (i := 1)) (em_drawM (M := 4) rfl (em_pick (m := 3) (emi_cons (em_c ed_int (by decide) (by decide)) (emi_cons (em_c ed_int (by decide) (by decide)) (emi_cons (em_c ed_int (by decide) (by decide)) emi_nil))) (em_draw rfl ed_int (by decide) (by decide)) (by decide)) (by decide))).imp (by decide) fun d h => h) (by decide) (by decide)) (by decide) (fun _ => rfl) (fun i hi H1 t => emt_yes) (fun i hi H1 t => em_draw rfl (ed_var rfl (.int high)) (by omega) (by omega)))) gi.pn (by omega) fun v4 H4 d4 g4 k4 r4 => ?_
    obtain ⟨ds, rfl, cn, cn1, cn2, ⟨hl1, hl2⟩, hl3⟩ := r4
    obtain ⟨rows, rfl, hrows⟩ := ints_of hl2
    rw [List.length_map] at hl1
    have g44 := gi.trans g4
    refine sd_appM (K := K) (p := p) (k := 3) (R := fun d => ∃ l : Light, d = eLight l ∧ l.ok wide high) rfl (g4.xB q _ nq hx) nq (by have := kx.len; rw [List.length_map] at this; omega) ((em_tup (ema_cons (em_draw rfl (ed_var rfl (.int wide)) (by omega) (by omega)) (ema_cons (em_pick (m := 3) (a := -9) (b := 9) (emi_cons (em_c ed_int (by decide) (by decide)) (emi_cons (em_c ed_int (by decide) (by decide)) (emi_cons (em_subc (em_draw rfl ed_int (by decide) (by decide)) ed_int) emi_nil))) (em_draw rfl ed_int (by decide) (by decide)) (by decide)) (ema_cons (em_of (ed_var rfl k4)) ema_nil))) ?_).imp (by decide) ?_) g44.pn (by omega) fun v5 H5 d5 g5 k5 r5 => ?_
    · rintro ds ⟨d, r, rfl, _, d', r', rfl, _, d2, r2, rfl, _, rfl⟩
      exact Nat.le_of_ble_eq_true rfl
    · rintro d ⟨ds, rfl, d1, r, rfl, ⟨a, rfl, a1, a2⟩, d2, r', rfl, ⟨b, rfl, b1, b2⟩, d3, r3, rfl, rfl, rfl⟩
      exact ⟨⟨a, b, rows⟩, rfl, a1, a2, b1, b2, by show 1 ≤ rows.length; omega, by show rows.length ≤ 4; omega, hrows⟩
    obtain ⟨l, rfl, lok⟩ := r5
    have hx5 := (g4.trans g5).xB q _ nq hx
    have tD := Tx.lst (o := .lst (xs ++ [v5])) hx5
    have g55 := g44.trans g5
    have hqH : H q = none := by
      cases h0 : H q with
      | none => rfl
      | some o =>
        have := g1.xB q o nq h0
        rw [hq0] at this
        cases this
    refine ⟨xs ++ [v5], ls ++ [l], _, _, _, rfl, ⟨fun b o hb h => ?_, g55.xT.trans tD, ?_⟩, upd_same, ?_, by rw [List.length_append, el]; rfl, fun l' hl' => ?_⟩
    · have nb : b ≠ q := fun z => by
        subst z
        rw [hqH] at h
        cases h
      rw [upd_ne nb]
      exact g55.xB b o hb h
    · obtain ⟨a, b, c, h1, h2⟩ := g55.pn.mono (show _ ≤ n + 3 + (i + 1) * 9 by omega)
      exact ⟨a, b, c, by rw [upd_ne nq.symm]; exact h1, h2⟩
    · rw [← dta_snoc_map]
      exact ((kx.at (g4.xT.trans g5.xT)).at tD).append (.cons (k5.at tD) .nil)
    · rcases List.mem_append.mp hl' with h | h
      · exact hl l' h
      · rcases List.mem_cons.mp h with rfl | h
        · exact lok
        · nomatch h
  · obtain ⟨xs, ls, c5, c6, c7, rfl, gi, hx, kx, el, hl⟩ := pv
    refine ⟨.int wide, rfl, .int high, rfl, .ref q, rfl, q, xs, rfl, .inl ⟨sq_of hx, fun r hr => ?_⟩⟩
    refine ⟨sz_of (Nat.le_of_ble_eq_true rfl), fun t ht => ?_⟩
    have e1 : Ex H' (upd H' r (.tup xs)) := Ex.new hr
    have e2 : Ex (upd H' r (.tup xs)) (upd (upd H' r (.tup xs)) t (.tup [.int wide, .int high, .ref r])) := Ex.new ht
    refine hq (.ref t) _ (eSky ⟨wide, high, ls⟩) ((gi.ex (e1.trans e2)).mono (by omega)) (.tup (st_of upd_same) (.cons (.int _) (.cons (.int _) (.cons (.tup (st_of (e2 _ _ upd_same)) (kx.ex (e1.trans e2))) .nil)))) ⟨⟨wide, high, ls⟩, rfl, ⟨w1, w2, hh1, hh2, by show 1 ≤ ls.length; omega, by show ls.length ≤ 6; omega, hl⟩, by show ls.length ≤ 4; omega⟩
end Dome
/-! the law's objects -/
namespace Dome
open PySem PySem.Spec PyProof.Rows L2 Evl

def A_lamp (s : Sky) (ds : List PyData) : Prop := ds = [eSky s] ∧ s.ok
def P_lamp (s : Sky) (d : PyData) : Prop := ∃ l : Lamp, d = eLamp l ∧ l.ok s
abbrev sp__law_lamp (K : PySem.W.Frag) : Sp := spG K 4 A_lamp P_lamp
theorem len__law_lamp {K : PySem.W.Frag} : ∀ vs H Q E, sp__law_lamp K vs H Q E → vs.length = ["_law_pen_here", "_law_sky_here"].length := spG_len (m := 1) fun x ds h => by rw [h.1]; rfl
abbrev Gd__law_lamp (P : Program) (w : World) (K : PySem.W.Frag) (mg : Str → Option Value) (base : Heap) : Prop := Good P w K mg base 2 "_law_lamp" ["_law_pen_here", "_law_sky_here"] (sp__law_lamp K)
theorem ok__law_lamp {P : Program} {w : World} {K : PySem.W.Frag} {mg : Str → Option Value} {base : Heap} (T : Txt K mg) (G__law_draw : Gd__law_draw P w K mg base) : Gd__law_lamp P w K mg base := by
  refine Good.of T.f__law_lamp sc__law_lamp (fun _ _ _ _ _ _ us hl => match us, hl with | [_, _], _ => rfl) len__law_lamp fun cdv A outer s H vs Q E hr h => ?_
  refine ⟨_, (pss_cons (ps_par (i := 2) (j := 3) rfl sc__law_lamp.nd rfl rfl (by decide) rfl rfl (pa_cons (pe_op op_fdiv (pe_ix (show IxR _ (rIxT K) from ix_tup) (pv 1) pe_int (fun _ _ => rfl)) pe_int) (pa_cons (pe_ix (show IxR _ (rIxT K) from ix_tup) (pv 1) pe_int (fun _ _ => rfl)) pa_nil)) (by rfl))
    (pss_cons (ps_par (i := 4) (j := 5) rfl sc__law_lamp.nd rfl rfl (by decide) rfl rfl (pa_cons (pe_g G__law_draw (hr.mono (by omega)) (pa_cons (pv 0) (pa_cons (pv 2) pa_nil))) (pa_cons (pe_g G__law_draw (hr.mono (by omega)) (pa_cons (pv 0) (pa_cons (pv 3) pa_nil))) pa_nil)) (by rfl))
    (pss_one (ps_ret (pe_tup (pa_cons (pv 4) (pa_cons (pe_op op_add (pv 4) (pe_g G__law_draw (hr.mono (by omega)) (pa_cons (pv 0) (pa_cons (pe_op op_sub (pv 2) (pv 4)) pa_nil)))) (pa_cons (pv 5) (pa_cons (pe_op op_add (pv 5) (pe_g G__law_draw (hr.mono (by omega)) (pa_cons (pv 0) (pa_cons (pe_op op_sub (pv 3) (pv 5)) pa_nil)))) pa_nil))))))))), ?_⟩
  obtain ⟨p, ws, ds, n, s, rfl, ha, ⟨rfl, hs⟩, pn, hn, hq⟩ := h
  obtain ⟨v2, rfl, h2⟩ := ha.c1
  have w1 := hs.w1
  have w2 := hs.w2
  have h1' := hs.h1
  have h2' := hs.h2
  refine sq_par (ed_fdiv (ed_ix (ed_var rfl h2) ed_int rfl) ed_int ⟨by decide, by decide⟩) (ed_ix (ed_var rfl h2) ed_int rfl) fun x1 x2 H1 e1 k1 k2 => ?_
  cases k1; cases k2
  refine sq_parM (K := K) (p := p) (em_draw rfl (ed_var rfl (.int (s.wide / 2))) (by omega) (by omega)) (em_draw rfl (ed_var rfl (.int s.high)) (by omega) (by omega)) (pn.ex e1) (by omega) fun x3 x4 H2 d1 d2 g2 k3 k4 r3 r4 => ?_
  obtain ⟨f, rfl, f1, f2⟩ := r3
  obtain ⟨l, rfl, l1, l2⟩ := r4
  cases k3; cases k4
  have g := (Go.of e1 pn).trans g2
  refine sd_retM' (K := K) (p := p) (k := 2) (R := P_lamp s) ((em_tup (ema_cons (em_of (ed_var rfl (.int f))) (ema_cons (em_cadd (ed_var rfl (.int f)) (em_draw rfl (ed_sub (ed_var rfl (.int (s.wide / 2))) (ed_var rfl (.int f))) (by omega) (by omega))) (ema_cons (em_of (ed_var rfl (.int l))) (ema_cons (em_cadd (ed_var rfl (.int l)) (em_draw rfl (ed_sub (ed_var rfl (.int s.high)) (ed_var rfl (.int l))) (by omega) (by omega))) ema_nil)))) ?_).imp (by decide) ?_) g.pn (by omega) fun v H3 d g3 kd rd => hq v H3 d ((g.trans g3).mono (by omega)) kd rd
  · rintro ds ⟨d, r, rfl, _, d2, r2, rfl, _, d3, r3, rfl, _, d4, r4, rfl, _, rfl⟩
    exact Nat.le_of_ble_eq_true rfl
  · rintro d ⟨ds, rfl, d, r, rfl, rfl, d2, r2, rfl, ⟨b, rfl, b1, b2⟩, d3, r3, rfl, rfl, d4, r4, rfl, ⟨c, rfl, c1, c2⟩, rfl⟩
    exact ⟨⟨f, b, l, c⟩, rfl, by show 0 ≤ f; omega, by show f ≤ b; omega, by show b ≤ s.wide / 2 - 1; omega, by show 0 ≤ l; omega, by show l ≤ c; omega, by show c ≤ s.high - 1; omega⟩
section
variable {K : PySem.W.Frag} {p : Addr} {σ : L2.St} {H : Hp} {tb : TE} {E : XK} {k : Nat} {i : Nat}
theorem em_lamp {s : Sky} (hv : σ[i]? = some (some (.ref p))) (h : Ed K tb σ H (eSky s)) (hs : s.ok) : Em K p (tCall (sp__law_lamp K) [] E (tCons (tVar i) (tCons tb tNil))) σ H 4 (P_lamp s) :=
  (em_call hv (ema_cons (em_of h) ema_nil) fun ds hd => by
    obtain ⟨d, r, rfl, rfl, rfl⟩ := hd
    exact ⟨s, ⟨rfl, hs⟩, fun d h => h⟩).imp (by omega) fun d h => h
end

/-! ### lamps -/
def A_lamps (s : Sky) (ds : List PyData) : Prop := ds = [eSky s, .int 3] ∧ s.ok
def P_lamps (s : Sky) (d : PyData) : Prop := ∃ ls : List Lamp, d = .tuple (ls.map eLamp) ∧ 1 ≤ ls.length ∧ ls.length ≤ 3 ∧ ∀ l ∈ ls, l.ok s
abbrev sp__law_lamps (K : PySem.W.Frag) : Sp := spG K 20 A_lamps P_lamps
theorem len__law_lamps {K : PySem.W.Frag} : ∀ vs H Q E, sp__law_lamps K vs H Q E → vs.length = ["_law_pen_here", "_law_sky_here", "_law_most"].length := spG_len (m := 2) fun x ds h => by rw [h.1]; rfl
def EachL {α : Type} (enc : α → PyData) (ok : α → Prop) (i : Nat) (ds : List PyData) : Prop := ds.length = i ∧ ∃ ls : List α, ds = ls.map enc ∧ ∀ l ∈ ls, ok l
theorem EachL.zero {α : Type} {enc : α → PyData} {ok : α → Prop} : EachL enc ok 0 [] := ⟨rfl, [], rfl, fun l h => nomatch h⟩
theorem EachL.snoc {α : Type} {enc : α → PyData} {ok : α → Prop} {i : Nat} {ds : List PyData} {d : PyData} (h : EachL enc ok i ds) (hd : ∃ l, d = enc l ∧ ok l) : EachL enc ok (i + 1) (ds ++ [d]) := by
  obtain ⟨h1, ls, rfl, h2⟩ := h
  obtain ⟨l, rfl, hl⟩ := hd
  refine ⟨by rw [List.length_append, h1]; rfl, ls ++ [l], by rw [List.map_append]; rfl, fun x hx => ?_⟩
  rcases List.mem_append.mp hx with hx | hx
  · exact h2 x hx
  · rcases List.mem_cons.mp hx with rfl | hx
    · exact hl
    · nomatch hx
theorem dta_set {K : PySem.W.Frag} {H : Hp} : ∀ {vs : List V} {ds : List PyData} (j : Nat) {v : V} {d : PyData}, DtA K H vs ds → Dt K H v d → DtA K H (vs.set j v) (ds.set j d)
  | _, _, _, _, _, .nil, _ => .nil
  | _, _, 0, _, _, .cons _ t, h => .cons h t
  | _, _, j + 1, _, _, .cons r t, h => .cons r (dta_set j t h)
abbrev Gd__law_lamps (P : Program) (w : World) (K : PySem.W.Frag) (mg : Str → Option Value) (base : Heap) : Prop := Good P w K mg base 3 "_law_lamps" ["_law_pen_here", "_law_sky_here", "_law_most"] (sp__law_lamps K)
theorem ok__law_lamps {P : Program} {w : World} {K : PySem.W.Frag} {mg : Str → Option Value} {base : Heap} (T : Txt K mg) (G__law_lamp : Gd__law_lamp P w K mg base) (G__law_draw : Gd__law_draw P w K mg base) : Gd__law_lamps P w K mg base := by
  refine Good.of T.f__law_lamps sc__law_lamps (fun _ _ _ _ _ _ us hl => match us, hl with | [_, _, _], _ => rfl) len__law_lamps fun cdv A outer s H vs Q E hr h => ?_
  refine ⟨_, (pss_cons (ps_setLc (i := 3) rfl sc__law_lamps.nd rfl rfl (sw_true rfl rfl rfl (by decide +kernel)) (pi_range1 rfl (T.b_range) (pa_cons (pe_op op_add pe_int (pe_g G__law_draw (hr.mono (by omega)) (pa_cons (pv 0) (pa_cons (pv 2) pa_nil)))) pa_nil)) (blkOk_by (own := [("_law_turn", 4)]) (N := N__law_lamps) (sc := defScope s__law_lamps) (by decide +kernel)) (fun _ _ _ _ _ => (pg_name (i := 4) sc__law_lamps.nd rfl (.inl rfl))) (fun _ _ _ _ _ => pts_nil) (fun _ _ _ _ _ => (pe_g G__law_lamp (hr.mono (by omega)) (pa_cons (pv 0) (pa_cons (pv 1) pa_nil)))))
    (pss_cons (ps_if (pt_cmpR op_eq (pe_g G__law_draw (hr.mono (by omega)) (pa_cons (pv 0) (pa_cons pe_int pa_nil))) pe_int (nomark _)) (pss_one (ps_asg (pe_tup (pa_cons pe_int (pa_cons (pe_op op_sub (pe_op op_fdiv (pe_ix (show IxR _ (rIxT K) from ix_tup) (pv 1) pe_int (fun _ _ => rfl)) pe_int) pe_int) (pa_cons pe_int (pa_cons (pe_op op_sub (pe_ix (show IxR _ (rIxT K) from ix_tup) (pv 1) pe_int (fun _ _ => rfl)) pe_int) pa_nil))))) (pg_sub (pv 3) (pe_g G__law_draw (hr.mono (by omega)) (pa_cons (pv 0) (pa_cons (pe_callB (show CallR _ (.builtin "len") (rLenQ K) from call_len_seq) rfl (T.b_len) (by decide +kernel) (pa_cons (pv 3) pa_nil)) pa_nil))) set_list))) pss_nil)
    (pss_one (ps_ret (pe_callTy call_tuple_of rfl (T.b_tuple) (by decide +kernel) (pa_cons (pv 3) pa_nil)))))), ?_⟩
  obtain ⟨p, ws, ds, n, s, rfl, ha, ⟨rfl, hs⟩, pn, hn, hq⟩ := h
  obtain ⟨v2, v3, rfl, h2, h3⟩ := ha.c2
  cases h3
  have w1 := hs.w1
  have w2 := hs.w2
  have h1' := hs.h1
  have h2' := hs.h2
  refine sq_asgLM (K := K) (p := p) (k := 13) ((elm_lcR (lo := 1) (hi := 3) (k := 1) (k1 := 0) (k2 := 4) (B := fun b => b = true) (fun _ d => P_lamp s d) (EachL eLamp fun l => l.ok s) EachL.zero (fun i ds b => nomatch b) (fun i ds d h r => h.snoc r) (em_cadd (ed_int (i := 1)) (em_draw rfl (ed_var rfl (.int 3)) (by decide) (by decide))) (by decide) (fun _ => rfl) (fun i hi H1 t => emt_yes) (fun i hi H1 t => em_lamp rfl (ed_var rfl (h2.at t)) hs)).imp (by decide) fun ds h => h) pn (by omega) fun q xs H1 ds hq0 g1 hx kx sd => ?_
  obtain ⟨cn, c1, c2, ⟨hl1, ls, rfl, hl2⟩, hl3⟩ := sd
  rw [List.length_map] at hl1
  have nq := pn.ne hq0
  have xl := kx.len
  rw [List.length_map] at xl
  have h2 := h2.at g1.xT
  -- what the last line gives
  have fin : ∀ (D : Ends) (H2 : Hp) (xs : List V) (ls : List Lamp) (c4 : Option V), D.rt = Q → Go p H H2 (n + 15) → H2 q = some (.lst xs) → DtA K H2 xs (ls.map eLamp) → 1 ≤ ls.length → ls.length ≤ 3 → (∀ l ∈ ls, l.ok s) →
      tRet (tCB (rTupQ K) (tCons (tVar 3) tNil)) D [some (.ref p), some v2, some (.int 3), some (.ref q), c4] H2 := fun D H2 xs ls c4 eR g hx kx l1 l2 ok => by
    refine ⟨.ref q, rfl, q, xs, rfl, .inl ⟨sq_of hx, fun t ht => ?_⟩⟩
    rw [eR]
    have e1 : Ex H2 (upd H2 t (.tup xs)) := Ex.new ht
    exact hq (.ref t) _ _ ((g.ex e1).mono (by omega)) (.tup (st_of upd_same) (kx.ex e1)) ⟨ls, rfl, l1, l2, ok⟩
  refine sq_ifNM (p := p) (emt_eq0 (K := K) (em_draw (K := K) rfl (ed_int (i := 4)) (by decide) (by decide)) ed_int) g1.pn (by omega) (fun H2 g2 => ?_) fun H2 g2 => ?_
  · have h2 := h2.at g2.xT
    have g12 := g1.trans g2
    refine ed_tup (K := K) (ds := [.int 0, .int (s.wide / 2 - 1), .int 0, .int (s.high - 1)]) (ea_cons ed_int (ea_cons (ed_sub (ed_fdiv (ed_ix (ed_var rfl h2) ed_int rfl) ed_int ⟨by decide, by decide⟩) ed_int) (ea_cons ed_int (ea_cons (ed_sub (ed_ix (ed_var rfl h2) ed_int rfl) ed_int) ea_nil)))) (Nat.le_of_ble_eq_true rfl) H2 (Tx.refl _) _ fun v H3 e3 kv => ?_
    have hx3 := e3 _ _ (g2.xB q _ nq hx)
    have g3 := g12.ex e3
    refine ⟨.ref q, rfl, .ref p, rfl, .ref q, rfl, q, xs, rfl, .inl (sq_of hx3), ?_⟩
    refine ⟨p, [.int (xs.length : Int)], [.int (xs.length : Int)], _, (xs.length : Int), rfl, .cons (.int _) .nil, ⟨rfl, by omega, by omega⟩, g3.pn, by omega, fun vi H4 di g4 ki ri => ?_⟩
    obtain ⟨i, rfl, i1, i2⟩ := ri
    cases ki
    have hx4 := g4.xB q _ nq hx3
    have hj : ixN xs.length i = some i.toNat := by
      have e : i = ((i.toNat : Nat) : Int) := by omega
      rw [e]
      exact ixN_nat (by omega)
    refine ⟨q, xs, i, i.toNat, rfl, rfl, hx4, hj, ?_⟩
    have tD := Tx.lst (o := .lst (xs.set i.toNat v)) hx4
    have g14 := g3.trans g4
    have hqH : H q = none := hq0
    refine fin _ _ (xs.set i.toNat v) (ls.set i.toNat ⟨0, s.wide / 2 - 1, 0, s.high - 1⟩) _ rfl ⟨fun b o hb h => ?_, g14.xT.trans tD, ?_⟩ upd_same ?_ (by rw [List.length_set]; omega) (by rw [List.length_set]; omega) fun l hl => ?_
    · have nb : b ≠ q := fun z => by
        subst z
        rw [hqH] at h
        cases h
      rw [upd_ne nb]
      exact g14.xB b o hb h
    · obtain ⟨a, b, c, h1, h2⟩ := g14.pn.mono (show _ ≤ n + 15 by omega)
      exact ⟨a, b, c, by rw [upd_ne nq.symm]; exact h1, h2⟩
    · rw [List.map_set]
      exact dta_set _ ((kx.at ((g2.xT.trans (.of e3)).trans g4.xT)).at tD) ((kv.at g4.xT).at tD)
    · rcases List.mem_or_eq_of_mem_set hl with h | h
      · exact hl2 l h
      · subst h
        exact ⟨by show (0 : Int) ≤ 0; omega, by show 0 ≤ s.wide / 2 - 1; omega, by show s.wide / 2 - 1 ≤ s.wide / 2 - 1; omega, by show (0 : Int) ≤ 0; omega, by show 0 ≤ s.high - 1; omega, by show s.high - 1 ≤ s.high - 1; omega⟩
  · exact fin _ H2 xs ls _ rfl ((g1.trans g2).mono (by omega)) (g2.xB q _ nq hx) (kx.at g2.xT) (by omega) (by omega) hl2

/-! ### a state -/
def A_state (s : Sky) (ds : List PyData) : Prop := ds = [eSky s] ∧ s.ok
def P_state (s : Sky) (d : PyData) : Prop := ∃ st : Stt, d = eStt st ∧ st.ok s ∧ -10 ≤ st.n ∧ st.n ≤ 10 ∧ st.hid.length ≤ 6
abbrev sp__law_state (K : PySem.W.Frag) : Sp := spG K 20 A_state P_state
theorem len__law_state {K : PySem.W.Frag} : ∀ vs H Q E, sp__law_state K vs H Q E → vs.length = ["_law_pen_here", "_law_sky_here"].length := spG_len (m := 1) fun x ds h => by rw [h.1]; rfl
def Rise (i : Nat) (ds : List PyData) : Prop := ∃ ns : List Int, ds = ns.map .int ∧ ns.Pairwise (· < ·) ∧ ∀ x ∈ ns, 0 ≤ x ∧ x < (i : Int)
abbrev Gd__law_state (P : Program) (w : World) (K : PySem.W.Frag) (mg : Str → Option Value) (base : Heap) : Prop := Good P w K mg base 2 "_law_state" ["_law_pen_here", "_law_sky_here"] (sp__law_state K)
theorem ok__law_state {P : Program} {w : World} {K : PySem.W.Frag} {mg : Str → Option Value} {base : Heap} (T : Txt K mg) (G__law_draw : Gd__law_draw P w K mg base) : Gd__law_state P w K mg base := by
  refine Good.of T.f__law_state sc__law_state (fun _ _ _ _ _ _ us hl => match us, hl with | [_, _], _ => rfl) len__law_state fun cdv A outer s H vs Q E hr h => ?_
  refine ⟨_, (pss_cons (ps_set (i := 2) sc__law_state.nd rfl (.inl rfl) (pe_callTy call_tuple_of rfl (T.b_tuple) (by decide +kernel) (pa_cons (pe_lc rfl sc__law_state.nd (pi_range1 rfl (T.b_range) (pa_cons (pe_callB (show CallR _ (.builtin "len") (rLenQ K) from call_len_seq) rfl (T.b_len) (by decide +kernel) (pa_cons (pe_ix (show IxR _ (rIxT K) from ix_tup) (pv 1) pe_int (fun _ _ => rfl)) pa_nil)) pa_nil)) (blkOk_by (own := [("_law_light", 4)]) (N := N__law_state) (sc := defScope s__law_state) (by decide +kernel)) (fun _ _ _ _ _ => (pg_name (i := 4) sc__law_state.nd rfl (.inl rfl))) (fun _ _ _ _ _ => pts_one (pt_cmpR op_eq (pe_g G__law_draw (hr.mono (by omega)) (pa_cons (pv 0) (pa_cons pe_int pa_nil))) pe_int (nomark _))) (fun _ _ _ _ _ => (pv 4))) pa_nil)))
    (pss_cons (ps_set (i := 3) sc__law_state.nd rfl (.inl rfl) (pe_ix (show IxR _ (rIxL K) from ix_list) (pe_lst (pa_cons pe_int (pa_cons pe_int (pa_cons (pe_op op_sub (pe_g G__law_draw (hr.mono (by omega)) (pa_cons (pv 0) (pa_cons (pe_op op_add (pe_op op_mul pe_int (pe_ix (show IxR _ (rIxT K) from ix_tup) (pv 1) pe_int (fun _ _ => rfl))) pe_int) pa_nil))) (pe_ix (show IxR _ (rIxT K) from ix_tup) (pv 1) pe_int (fun _ _ => rfl))) pa_nil)))) (pe_g G__law_draw (hr.mono (by omega)) (pa_cons (pv 0) (pa_cons pe_int pa_nil))) (fun _ _ => rfl)))
    (pss_one (ps_ret (pe_tup (pa_cons (pe_op op_sub (pe_g G__law_draw (hr.mono (by omega)) (pa_cons (pv 0) (pa_cons pe_int pa_nil))) pe_int) (pa_cons (pe_op op_sub (pe_g G__law_draw (hr.mono (by omega)) (pa_cons (pv 0) (pa_cons pe_int pa_nil))) pe_int) (pa_cons (pv 3) (pa_cons (pv 2) pa_nil))))))))), ?_⟩
  obtain ⟨p, ws, ds, n, s, rfl, ha, ⟨rfl, hs⟩, pn, hn, hq⟩ := h
  obtain ⟨v2, rfl, h2⟩ := ha.c1
  have h1' := hs.h1
  have h2' := hs.h2
  have n2 := hs.n2
  refine sq_asgM (K := K) (p := p) (k := 6) ((em_tuple (elm_lcR (lo := s.lights.length) (hi := s.lights.length) (k := 0) (k1 := 1) (k2 := 0) (B := fun _ => True) (fun i d => d = .int (i : Int)) Rise ⟨[], rfl, .nil, fun x h => nomatch h⟩ (fun i ds _ h => ?_) (fun i ds d h r => ?_) (em_int (ed_is (ed_len (ed_ix (ed_var rfl h2) ed_int rfl)) (by rw [List.length_map]))) (by omega) (fun _ => rfl) (fun i hi H1 t => emt_eq0 (em_draw rfl ed_int (by decide) (by decide)) ed_int) (fun i hi H1 t => em_of (ed_var rfl (.int _))))).imp (by omega) fun d h => h) pn (by omega) fun v H1 d g1 kd rd => ?_
  · obtain ⟨ns, rfl, h1, h2⟩ := h
    exact ⟨ns, rfl, h1, fun x hx => by have := h2 x hx; omega⟩
  · obtain ⟨ns, rfl, h1, h2⟩ := h
    subst r
    refine ⟨ns ++ [(i : Int)], by rw [List.map_append]; rfl, List.pairwise_append.mpr ⟨h1, List.pairwise_singleton _ _, fun a ha b hb => ?_⟩, fun x hx => ?_⟩
    · rcases List.mem_cons.mp hb with rfl | hb
      · exact (h2 a ha).2
      · nomatch hb
    · rcases List.mem_append.mp hx with hx | hx
      · have := h2 x hx; omega
      · rcases List.mem_cons.mp hx with rfl | hx
        · omega
        · nomatch hx
  obtain ⟨ds, rfl, cn, c1, c2, ⟨hid, rfl, r1, r2⟩, c3⟩ := rd
  rw [List.length_map] at c3
  have h2 := h2.at g1.xT
  refine sq_asgM (K := K) (p := p) (k := 2) (R := IntIn (-5) 5) ((em_pick (m := 3) (emi_cons (em_c (ed_int (i := 0)) (by decide) (by decide)) (emi_cons (em_c (ed_int (i := 0)) (by decide) (by decide)) (emi_cons (em_r (em_subc (em_draw rfl (ed_add (ed_mul ed_int (ed_ix (ed_var rfl h2) ed_int rfl) (.inl ⟨by decide, by decide⟩)) ed_int) (by omega) (by omega)) (ed_ix (ed_var rfl h2) ed_int rfl)) (by omega) (by omega)) emi_nil))) (em_draw rfl (ed_int (i := 3)) (by decide) (by decide)) (by decide)).imp (by decide) fun d h => h) g1.pn (by omega) fun v3 H2 d2 g2 k3 r3 => ?_
  obtain ⟨nn, rfl, nn1, nn2⟩ := r3
  cases k3
  have g := g1.trans g2
  refine sd_retM' (K := K) (p := p) (k := 2) (R := P_state s) ((em_tup (ema_cons (em_subc (em_draw rfl (ed_int (i := 61)) (by decide) (by decide)) (ed_int (i := 30))) (ema_cons (em_subc (em_draw rfl (ed_int (i := 31)) (by decide) (by decide)) (ed_int (i := 15))) (ema_cons (em_of (ed_var rfl (.int nn))) (ema_cons (em_of (ed_var rfl (kd.at g2.xT))) ema_nil)))) ?_).imp (by decide) ?_) g.pn (by omega) fun v H3 d g3 kd rd => hq v H3 d ((g.trans g3).mono (by omega)) kd rd
  · rintro ds ⟨d, r, rfl, _, d2, r2, rfl, _, d3, r3, rfl, _, d4, r4, rfl, _, rfl⟩
    exact Nat.le_of_ble_eq_true rfl
  · rintro d ⟨ds, rfl, d, r, rfl, ⟨a, rfl, _⟩, d2, r2', rfl, ⟨b, rfl, b1, b2⟩, d3, r3, rfl, rfl, d4, r4, rfl, rfl, rfl⟩
    refine ⟨⟨a, b, nn, hid⟩, rfl, ⟨r1, fun l hl => ?_⟩, by show -10 ≤ nn; omega, by show nn ≤ 10; omega, by show hid.length ≤ 6; omega⟩
    have := r2 l hl
    omega

/-! ### a show -/
def A_show (s : Sky) (ds : List PyData) : Prop := ds = [eSky s, .int 3] ∧ s.ok
def P_show (s : Sky) (d : PyData) : Prop := ∃ w : Show, d = eShow w ∧ w.ok s
abbrev sp__law_show (K : PySem.W.Frag) : Sp := spG K 40 A_show P_show
theorem len__law_show {K : PySem.W.Frag} : ∀ vs H Q E, sp__law_show K vs H Q E → vs.length = ["_law_pen_here", "_law_sky_here", "_law_most"].length := spG_len (m := 2) fun x ds h => by rw [h.1]; rfl
abbrev Gd__law_show (P : Program) (w : World) (K : PySem.W.Frag) (mg : Str → Option Value) (base : Heap) : Prop := Good P w K mg base 4 "_law_show" ["_law_pen_here", "_law_sky_here", "_law_most"] (sp__law_show K)
theorem ok__law_show {P : Program} {w : World} {K : PySem.W.Frag} {mg : Str → Option Value} {base : Heap} (T : Txt K mg) (G__law_lamps : Gd__law_lamps P w K mg base) (G__law_draw : Gd__law_draw P w K mg base) : Gd__law_show P w K mg base := by
  refine Good.of T.f__law_show sc__law_show (fun _ _ _ _ _ _ us hl => match us, hl with | [_, _, _], _ => rfl) len__law_show fun cdv A outer s H vs Q E hr h => ?_
  refine ⟨_, (pss_cons (ps_set (i := 3) sc__law_show.nd rfl (.inl rfl) (pe_g G__law_lamps (hr.mono (by omega)) (pa_cons (pv 0) (pa_cons (pv 1) (pa_cons (pv 2) pa_nil)))))
    (pss_cons (ps_set (i := 4) sc__law_show.nd rfl (.inl rfl) (pe_callTy call_tuple_of rfl (T.b_tuple) (by decide +kernel) (pa_cons (pe_lc rfl sc__law_show.nd (pi_tup (pv 3)) (blkOk_by (own := [("_law_lamp_here", 5)]) (N := N__law_show) (sc := defScope s__law_show) (by decide +kernel)) (fun _ _ _ _ _ => (pg_name (i := 5) sc__law_show.nd rfl (.inl rfl))) (fun _ _ _ _ _ => pts_nil) (fun _ _ _ _ _ => (pe_ix (show IxR _ (rIxL K) from ix_list) (pe_lst (pa_cons pe_int (pa_cons pe_int (pa_cons (pe_op op_sub (pe_g G__law_draw (hr.mono (by omega)) (pa_cons (pv 0) (pa_cons pe_int pa_nil))) pe_int) (pa_cons (pe_op op_sub (pe_g G__law_draw (hr.mono (by omega)) (pa_cons (pv 0) (pa_cons pe_int pa_nil))) pe_int) pa_nil))))) (pe_g G__law_draw (hr.mono (by omega)) (pa_cons (pv 0) (pa_cons pe_int pa_nil))) (fun _ _ => rfl)))) pa_nil)))
    (pss_one (ps_ret (pe_tup (pa_cons (pv 3) (pa_cons (pv 4) (pa_cons (pe_ix (show IxR _ (rIxL K) from ix_list) (pe_lst (pa_cons pe_int (pa_cons pe_int (pa_cons (pe_g G__law_draw (hr.mono (by omega)) (pa_cons (pv 0) (pa_cons pe_int pa_nil))) pa_nil)))) (pe_g G__law_draw (hr.mono (by omega)) (pa_cons (pv 0) (pa_cons pe_int pa_nil))) (fun _ _ => rfl)) pa_nil)))))))), ?_⟩
  obtain ⟨p, ws, ds, n, s, rfl, ha, ⟨rfl, hs⟩, pn, hn, hq⟩ := h
  obtain ⟨v2, v3, rfl, h2, h3⟩ := ha.c2
  cases h3
  refine sq_asgM (K := K) (p := p) (k := 20) (R := P_lamps s) ((em_call rfl (ema_cons (em_of (ed_var rfl h2)) (ema_cons (em_of (ed_var rfl (.int 3))) ema_nil)) fun ds hd => by
    obtain ⟨d, r, rfl, rfl, d2, r2, rfl, rfl, rfl⟩ := hd
    exact ⟨s, ⟨rfl, hs⟩, fun d h => h⟩).imp (by decide) fun d h => h) pn (by omega) fun v H1 d g1 kd rd => ?_
  obtain ⟨ls, rfl, l1, l2, lok⟩ := rd
  have ll : (ls.map eLamp).length * (0 + 3) ≤ 9 := by rw [List.length_map]; omega
  refine sq_asgM (K := K) (p := p) (k := 9) ((em_tuple (elm_lcT (k2 := 3) (fun _ d => IntIn (-9) 9 d) (EachIn (-9) 9) EachIn.zero (fun i ds d h r => h.snoc r) (ed_var rfl kd) (by rw [List.length_map]; omega) (fun _ => rfl) fun i hi v H2 t => (em_pick (m := 4) (emi_cons (em_c (ed_int (i := 0)) (by decide) (by decide)) (emi_cons (em_c (ed_int (i := 0)) (by decide) (by decide)) (emi_cons (em_r (em_subc (em_draw rfl (ed_int (i := 5)) (by decide) (by decide)) (ed_int (i := 2))) (by decide) (by decide)) (emi_cons (em_r (em_subc (em_draw rfl (ed_int (i := 19)) (by decide) (by decide)) (ed_int (i := 9))) (by decide) (by decide)) emi_nil)))) (em_draw rfl (ed_int (i := 4)) (by decide) (by decide)) (by decide)).imp (by decide) fun d h => h)).imp (by omega) fun d h => h) g1.pn (by omega) fun v4 H2 d2 g2 k4 r4 => ?_
  obtain ⟨es, rfl, cn, c1, c2, ⟨hl1, hl2⟩, c3⟩ := r4
  obtain ⟨offs, rfl, ho⟩ := ints_of hl2
  rw [List.length_map] at hl1 c1 c2
  have g := g1.trans g2
  refine sd_retM' (K := K) (p := p) (k := 2) (R := P_show s) ((em_tup (ema_cons (em_of (ed_var rfl (kd.at g2.xT))) (ema_cons (em_of (ed_var rfl k4)) (ema_cons (em_pick (m := 3) (a := 0) (b := 9) (emi_cons (em_c (ed_int (i := 0)) (by decide) (by decide)) (emi_cons (em_c (ed_int (i := 1)) (by decide) (by decide)) (emi_cons (em_draw rfl (ed_int (i := 10)) (by decide) (by decide)) emi_nil))) (em_draw rfl (ed_int (i := 3)) (by decide) (by decide)) (by decide)) ema_nil))) ?_).imp (by decide) ?_) g.pn (by omega) fun v H3 d g3 kd rd => hq v H3 d ((g.trans g3).mono (by omega)) kd rd
  · rintro ds ⟨d, r, rfl, _, d2, r2, rfl, _, d3, r3, rfl, _, rfl⟩
    exact Nat.le_of_ble_eq_true rfl
  · rintro d ⟨ds, rfl, d, r, rfl, rfl, d2, r2', rfl, rfl, d3, r3, rfl, ⟨b, rfl, b1, b2⟩, rfl⟩
    exact ⟨⟨ls, offs, b⟩, rfl, ⟨l1, by show ls.length ≤ 6; omega, lok, by show offs.length = ls.length; omega, ho, b1, b2⟩⟩

/-! ### items -/
def Bud : Nat → Nat
  | 0 => 10
  | d + 1 => 12 + 3 * Bud d
def A_item (n : Nat) (x : Sky × Nat) (ds : List PyData) : Prop := ds = [eSky x.1, .int (x.2 : Int)] ∧ x.1.ok ∧ x.2 + 1 ≤ n ∧ n ≤ 3
def P_item (x : Sky × Nat) (d : PyData) : Prop := ∃ i : Item, d = eItem i ∧ okI x.1 x.2 i
def P_items (x : Sky × Nat) (d : PyData) : Prop := ∃ xs : List Item, d = eItemsT xs ∧ okL x.1 x.2 xs ∧ xs.length ≤ 3
/-- budgets by the bound -/
abbrev sp_item (n : Nat) (K : PySem.W.Frag) : Sp := spG K (Bud n) (A_item n) P_item
abbrev sp_items (n : Nat) (K : PySem.W.Frag) : Sp := spG K (1 + 3 * Bud n) (A_item n) P_items
theorem len__law_item {n : Nat} {K : PySem.W.Frag} : ∀ vs H Q E, sp_item n K vs H Q E → vs.length = ["_law_pen_here", "_law_sky_here", "_law_deep"].length := spG_len (m := 2) fun x ds h => by rw [h.1]; rfl
theorem len__law_items {n : Nat} {K : PySem.W.Frag} : ∀ vs H Q E, sp_items n K vs H Q E → vs.length = ["_law_pen_here", "_law_sky_here", "_law_deep"].length := spG_len (m := 2) fun x ds h => by rw [h.1]; rfl
theorem okI_go (s : Sky) (d : Nat) {m e n : Int} (h : -99 ≤ m ∧ m ≤ 99 ∧ -99 ≤ e ∧ e ≤ 99 ∧ -99 ≤ n ∧ n ≤ 99) : okI s d (.go m e n) := by unfold okI; exact h
theorem okI_flip (s : Sky) (d : Nat) {l : Int} (h : 0 ≤ l ∧ l ≤ (s.lights.length : Int) - 1) : okI s d (.flip l) := by unfold okI; exact h
theorem okI_mark (s : Sky) (d : Nat) : okI s d .mark := by unfold okI; trivial
section
variable {K : PySem.W.Frag} {p : Addr} {σ : L2.St} {H : Hp} {tb tc : TE} {E : XK} {i n d : Nat} {s : Sky}
theorem em_items (hv : σ[i]? = some (some (.ref p))) (h : Ed K tb σ H (eSky s)) (h2 : Ed K tc σ H (.int (d : Int))) (hs : s.ok) (hd : d + 1 ≤ n) (hn : n ≤ 3) : Em K p (tCall (sp_items n K) [] E (tCons (tVar i) (tCons tb (tCons tc tNil)))) σ H (1 + 3 * Bud n) (P_items (s, d)) :=
  (em_call hv (ema_cons (em_of h) (ema_cons (em_of h2) ema_nil)) fun ds hd' => by
    obtain ⟨d1, r, rfl, rfl, d2, r2, rfl, rfl, rfl⟩ := hd'
    exact ⟨(s, d), ⟨rfl, hs, hd, hn⟩, fun d h => h⟩).imp (by omega) fun d h => h
theorem em_item (hv : σ[i]? = some (some (.ref p))) (h : Ed K tb σ H (eSky s)) (h2 : Ed K tc σ H (.int (d : Int))) (hs : s.ok) (hd : d + 1 ≤ n) (hn : n ≤ 3) : Em K p (tCall (sp_item n K) [] E (tCons (tVar i) (tCons tb (tCons tc tNil)))) σ H (Bud n) (P_item (s, d)) :=
  (em_call hv (ema_cons (em_of h) (ema_cons (em_of h2) ema_nil)) fun ds hd' => by
    obtain ⟨d1, r, rfl, rfl, d2, r2, rfl, rfl, rfl⟩ := hd'
    exact ⟨(s, d), ⟨rfl, hs, hd, hn⟩, fun d h => h⟩).imp (by omega) fun d h => h
end
theorem st__law_item {P : Program} {w : World} {K : PySem.W.Frag} {mg : Str → Option Value} {base : Heap} (T : Txt K mg) {n k : Nat} (hk : 1 ≤ k) (G__law_draw : Gd__law_draw P w K mg base) (G__law_items : Good P w K mg base k "_law_items" ["_law_pen_here", "_law_sky_here", "_law_deep"] (sp_items n K)) :
    Good P w K mg base (k + 1) "_law_item" ["_law_pen_here", "_law_sky_here", "_law_deep"] (sp_item (n + 1) K) := by
  refine Good.of T.f__law_item sc__law_item (fun _ _ _ _ _ _ us hl => match us, hl with | [_, _, _], _ => rfl) len__law_item fun cdv A outer s H vs Q E hr h => ?_
  refine ⟨_, (pss_cons (ps_set (i := 3) sc__law_item.nd rfl (.inl rfl) (pe_g G__law_draw (hr.mono (by omega)) (pa_cons (pv 0) (pa_cons (pe_ifExp (pt_cmpR op_gt (pv 2) pe_int (nomark _)) pe_int pe_int) pa_nil))))
    (pss_cons (ps_if (pt_cmpR op_lt (pv 3) pe_int (nomark _)) (pss_one (ps_ret (pe_tup (pa_cons pe_str (pa_cons (pe_op op_sub (pe_g G__law_draw (hr.mono (by omega)) (pa_cons (pv 0) (pa_cons pe_int pa_nil))) pe_int) (pa_cons (pe_op op_sub (pe_g G__law_draw (hr.mono (by omega)) (pa_cons (pv 0) (pa_cons pe_int pa_nil))) pe_int) (pa_cons (pe_ix (show IxR _ (rIxL K) from ix_list) (pe_lst (pa_cons pe_int (pa_cons pe_int (pa_cons pe_int (pa_cons (pe_un un_neg pe_int) pa_nil))))) (pe_g G__law_draw (hr.mono (by omega)) (pa_cons (pv 0) (pa_cons pe_int pa_nil))) (fun _ _ => rfl)) pa_nil))))))) pss_nil)
    (pss_cons (ps_if (pt_cmpR op_lt (pv 3) pe_int (nomark _)) (pss_one (ps_ret (pe_ix (show IxR _ (rIxL K) from ix_list) (pe_lst (pa_cons (pe_tup (pa_cons pe_str (pa_cons (pe_g G__law_draw (hr.mono (by omega)) (pa_cons (pv 0) (pa_cons (pe_callB (show CallR _ (.builtin "len") (rLenQ K) from call_len_seq) rfl (T.b_len) (by decide +kernel) (pa_cons (pe_ix (show IxR _ (rIxT K) from ix_tup) (pv 1) pe_int (fun _ _ => rfl)) pa_nil)) pa_nil))) pa_nil))) (pa_cons (pe_tup (pa_cons pe_str pa_nil)) pa_nil))) (pe_op op_sub (pv 3) pe_int) (fun _ _ => rfl)))) pss_nil)
    (pss_one (ps_ret (pe_tup (pa_cons pe_str (pa_cons (pe_g G__law_draw (hr.mono (by omega)) (pa_cons (pv 0) (pa_cons pe_int pa_nil))) (pa_cons (pe_g G__law_items (hr.mono (by omega)) (pa_cons (pv 0) (pa_cons (pv 1) (pa_cons (pe_op op_sub (pv 2) pe_int) pa_nil)))) pa_nil))))))))), ?_⟩
  obtain ⟨p, ws, ds, nn, ⟨s, dp⟩, rfl, ha, ⟨rfl, hs, dn, n3⟩, pn, hn, hq⟩ := h
  obtain ⟨v2, v3, rfl, h2, h3⟩ := ha.c2
  cases h3
  dsimp only at hs dn n3 hq
  replace h2 : Dt K H v2 (eSky s) := h2
  have l1 := hs.n1
  have l2 := hs.n2
  have eB : Bud (n + 1) = 12 + 3 * Bud n := rfl
  rw [eB] at hn hq
  refine sq_asgM (K := K) (p := p) (k := 1) (R := IntIn 0 ((if 0 < dp then 7 else 5) - 1)) (em_draw rfl (ed_if (d := .int (if 0 < dp then 7 else 5)) (eb_val (K := K) (ed_gt (ed_var rfl (.int (dp : Int))) ed_int)) (fun c => ?_) (fun c => ?_)) ?_ ?_) pn (by omega) fun v H1 d g1 kd rd => ?_
  · have c0 := of_decide_eq_true c
    rw [if_pos (by omega)]
    exact ed_int
  · have c0 := of_decide_eq_false c
    rw [if_neg (by omega)]
    exact ed_int
  · split <;> decide
  · split <;> decide
  obtain ⟨way, rfl, y1, y2⟩ := rd
  cases kd
  have h2 := h2.at g1.xT
  refine sq_ifN (eb_val (K := K) (ed_lt (ed_var rfl (.int way)) ed_int)) (fun z H2 e2 => ?_) fun z H2 e2 => ?_
  · have g := g1.ex e2
    refine sd_retM' (K := K) (p := p) (k := 4) (R := P_item (s, dp)) ((em_tup (ema_cons (em_of ed_str) (ema_cons (em_subc (em_draw rfl (ed_int (i := 5)) (by decide) (by decide)) (ed_int (i := 2))) (ema_cons (em_subc (em_draw rfl (ed_int (i := 5)) (by decide) (by decide)) (ed_int (i := 2))) (ema_cons (em_pick (m := 4) (a := -1) (b := 1) (emi_cons (em_c (ed_int (i := 0)) (by decide) (by decide)) (emi_cons (em_c (ed_int (i := 0)) (by decide) (by decide)) (emi_cons (em_c (ed_int (i := 1)) (by decide) (by decide)) (emi_cons (em_c (ed_neg (ed_int (i := 1))) (by decide) (by decide)) emi_nil)))) (em_draw rfl (ed_int (i := 4)) (by decide) (by decide)) (by decide)) ema_nil)))) ?_).imp (by decide) ?_) g.pn (by omega) fun v H3 d g3 kd rd => hq v H3 d ((g.trans g3).mono (by omega)) kd rd
    · rintro ds ⟨d, r, rfl, _, d2, r2, rfl, _, d3, r3, rfl, _, d4, r4, rfl, _, rfl⟩
      exact Nat.le_of_ble_eq_true rfl
    · rintro d ⟨ds, rfl, d, r, rfl, rfl, d2, r2', rfl, ⟨a, rfl, a1, a2⟩, d3, r3, rfl, ⟨b, rfl, b1, b2⟩, d4, r4, rfl, ⟨c, rfl, c1, c2⟩, rfl⟩
      exact ⟨.go a b c, rfl, okI_go s dp (by omega)⟩
  · have z0 := of_decide_eq_false z
    have h2 := h2.ex e2
    refine sq_ifN (eb_val (K := K) (ed_lt (ed_var rfl (.int way)) ed_int)) (fun z H3 e3 => ?_) fun z H3 e3 => ?_
    · have z1 := of_decide_eq_true z
      have g := (g1.ex e2).ex e3
      have h2 := h2.ex e3
      refine sd_retM' (K := K) (p := p) (k := 1) (R := P_item (s, dp)) ((em_ixL (m := 2) (S := fun ds => ∃ l : Int, (0 ≤ l ∧ l ≤ (s.lights.length : Int) - 1) ∧ ds = [eItem (.flip l), eItem .mark]) (k1 := 1) (k2 := 0) (fun H4 t n' pn' hn' Q' q' => ema_cons (em_tup (ema_cons (em_of ed_str) (ema_cons (em_draw (m := (s.lights.length : Int)) rfl (ed_is (ed_len (ed_ix (ed_var rfl h2) ed_int rfl)) (congrArg (fun n : Nat => PyData.int (n : Int)) (List.length_map _))) (by omega) (by omega)) ema_nil)) ?_) (ema_cons (em_of (ed_tup (ea_cons ed_str ea_nil))) ema_nil) H4 t n' pn' hn' Q' fun vs H5 ds g5 ks sd => q' vs H5 ds g5 ks ?_) (em_c (ed_sub (ed_var rfl (.int way)) (ed_int (i := 3))) (by omega) (by omega)) (fun ds h => by obtain ⟨l, _, rfl⟩ := h; rfl) (by decide)).imp (by decide) ?_) g.pn (by omega) fun v H4 d g4 kd rd => hq v H4 d ((g.trans g4).mono (by omega)) kd rd
      · rintro ds ⟨d, r, rfl, _, d2, r2, rfl, _, rfl⟩
        exact Nat.le_of_ble_eq_true rfl
      · obtain ⟨d, r, rfl, ⟨ds, rfl, d1, r1, rfl, rfl, d2, r2, rfl, ⟨l, rfl, l1, l2⟩, rfl⟩, d3, r3, rfl, rfl, rfl⟩ := sd
        exact ⟨l, ⟨l1, l2⟩, rfl⟩
      · rintro d ⟨ds, ⟨l, hl, rfl⟩, hd⟩
        rcases List.mem_cons.mp hd with rfl | hd
        · exact ⟨.flip l, rfl, okI_flip s dp hl⟩
        · rcases List.mem_cons.mp hd with rfl | hd
          · exact ⟨.mark, rfl, okI_mark s dp⟩
          · nomatch hd
    · have z1 := of_decide_eq_false z
      have g := (g1.ex e2).ex e3
      have h2 := h2.ex e3
      cases dp with
      | zero => rw [if_neg (by decide)] at y2; omega
      | succ d =>
      refine sd_retM' (K := K) (p := p) (k := 1 + (1 + 3 * Bud n)) (R := P_item (s, d + 1)) (Em.imp (k := 0 + (1 + (1 + 3 * Bud n + 0))) (em_tup (ema_cons (em_of ed_str) (ema_cons (em_draw rfl (ed_int (i := 5)) (by decide) (by decide)) (ema_cons (em_items rfl (ed_var rfl h2) (ed_is (x := .int (d : Int)) (ed_sub (ed_var rfl (.int ((d + 1 : Nat) : Int))) ed_int) ?_) hs (show d + 1 ≤ n by omega) (by omega)) ema_nil))) ?_) (by omega) ?_) g.pn (by omega) fun v H4 d' g4 kd rd => hq v H4 d' ((g.trans g4).mono (by omega)) kd rd
      · exact congrArg PyData.int (by omega)
      · rintro ds ⟨d, r, rfl, _, d2, r2, rfl, _, d3, r3, rfl, _, rfl⟩
        exact Nat.le_of_ble_eq_true rfl
      · rintro d' ⟨ds, rfl, d1, r, rfl, rfl, d2, r2', rfl, ⟨t, rfl, t1, t2⟩, d3, r3, rfl, ⟨xs, rfl, okx, lx⟩, rfl⟩
        refine ⟨.again t xs, rfl, ?_⟩
        show okI s (d + 1) (.again t xs)
        unfold okI
        exact ⟨t1, by omega, lx, okx⟩
theorem okL_of {s : Sky} {d : Nat} : ∀ {xs : List Item}, (∀ x ∈ xs, okI s d x) → okL s d xs
  | [], _ => by unfold okL; trivial
  | x :: r, h => by
    unfold okL
    exact ⟨h x List.mem_cons_self, okL_of fun y hy => h y (List.mem_cons_of_mem _ hy)⟩
theorem st__law_items {P : Program} {w : World} {K : PySem.W.Frag} {mg : Str → Option Value} {base : Heap} (T : Txt K mg) {n k : Nat} (hk : 1 ≤ k) (G__law_draw : Gd__law_draw P w K mg base) (G__law_item : Good P w K mg base k "_law_item" ["_law_pen_here", "_law_sky_here", "_law_deep"] (sp_item n K)) :
    Good P w K mg base (k + 1) "_law_items" ["_law_pen_here", "_law_sky_here", "_law_deep"] (sp_items n K) := by
  refine Good.of T.f__law_items sc__law_items (fun _ _ _ _ _ _ us hl => match us, hl with | [_, _, _], _ => rfl) len__law_items fun cdv A outer s H vs Q E hr h => ?_
  refine ⟨_, (pss_one (ps_ret (pe_callTy call_tuple_of rfl (T.b_tuple) (by decide +kernel) (pa_cons (pe_lc rfl sc__law_items.nd (pi_range1 rfl (T.b_range) (pa_cons (pe_g G__law_draw (hr.mono (by omega)) (pa_cons (pv 0) (pa_cons pe_int pa_nil))) pa_nil)) (blkOk_by (own := [("_law_turn", 3)]) (N := N__law_items) (sc := defScope s__law_items) (by decide +kernel)) (fun _ _ _ _ _ => (pg_name (i := 3) sc__law_items.nd rfl (.inl rfl))) (fun _ _ _ _ _ => pts_nil) (fun _ _ _ _ _ => (pe_g G__law_item (hr.mono (by omega)) (pa_cons (pv 0) (pa_cons (pv 1) (pa_cons (pv 2) pa_nil)))))) pa_nil)))), ?_⟩
  obtain ⟨p, ws, ds, nn, ⟨s, dp⟩, rfl, ha, ⟨rfl, hs, dn, n3⟩, pn, hn, hq⟩ := h
  obtain ⟨v2, v3, rfl, h2, h3⟩ := ha.c2
  cases h3
  dsimp only at hs dn n3 hq
  replace h2 : Dt K H v2 (eSky s) := h2
  refine sd_retM' (K := K) (p := p) (k := 1 + 3 * Bud n) (R := P_items (s, dp)) ((em_tuple (elm_lcR (lo := 0) (hi := 3) (k := 1) (k1 := 0) (k2 := Bud n) (B := fun b => b = true) (fun _ d => P_item (s, dp) d) (EachL eItem fun x => okI s dp x) EachL.zero (fun i ds b => nomatch b) (fun i ds d h r => h.snoc r) (em_draw rfl (ed_int (i := 4)) (by decide) (by decide)) (by decide) (fun _ => rfl) (fun i hi H1 t => emt_yes) (fun i hi H1 t => em_item rfl (ed_var rfl (h2.at t)) (ed_var rfl (.int (dp : Int))) hs dn n3))).imp (by omega) ?_) pn hn fun v H3 d g3 kd rd => hq v H3 d g3 kd rd
  · rintro d ⟨ds, rfl, cn, c1, c2, ⟨hl1, xs, rfl, hx⟩, c3⟩
    rw [List.length_map] at hl1
    exact ⟨xs, by unfold eItemsT; rw [eItems_map], okL_of hx, by omega⟩
abbrev sp__law_items (K : PySem.W.Frag) : Sp := sp_items 3 K
abbrev Gd__law_items (P : Program) (w : World) (K : PySem.W.Frag) (mg : Str → Option Value) (base : Heap) : Prop := Good P w K mg base 9 "_law_items" ["_law_pen_here", "_law_sky_here", "_law_deep"] (sp__law_items K)
theorem ok__law_items {P : Program} {w : World} {K : PySem.W.Frag} {mg : Str → Option Value} {base : Heap} (T : Txt K mg) (G__law_draw : Gd__law_draw P w K mg base) : Gd__law_items P w K mg base := by
  have z : Good P w K mg base 1 "_law_items" ["_law_pen_here", "_law_sky_here", "_law_deep"] (sp_items 0 K) := Good.none T.f__law_items (fun _ _ _ _ _ _ us hl => match us, hl with | [_, _, _], _ => rfl) fun vs H Q E h => by
    obtain ⟨p, ws, ds, nn, x, _, _, ⟨_, _, hd, _⟩, _⟩ := h
    omega
  have s1 := st__law_items T (by decide) G__law_draw (st__law_item T (by decide) G__law_draw z)
  have s2 := st__law_items T (by decide) G__law_draw (st__law_item T (by decide) G__law_draw s1)
  have s3 := st__law_items T (by decide) G__law_draw (st__law_item T (by decide) G__law_draw s2)
  exact s3.mono (by decide)
end Dome
/-! the law's questions -/
namespace Dome
open PySem PySem.Spec PyProof.Rows L2 Evl

/-! ### shapes -/
def lay (n : Nat) (d : PyData) : Prop := d.canLay0 = true ∧ d.depth ≤ n
theorem lay_int {n : Nat} (i : Int) : lay n (.int i) := ⟨rfl, Nat.zero_le _⟩
theorem lay_none {n : Nat} : lay n .none := ⟨rfl, Nat.zero_le _⟩
theorem lay_str {n : Nat} {x : Str} (h : PyData.strOk x = true) : lay n (.str x) := ⟨h, Nat.zero_le _⟩
theorem lay_all {n : Nat} : ∀ {ds : List PyData}, (∀ d ∈ ds, lay n d) → PyData.canLayAll0 ds = true ∧ PyData.depthAll ds ≤ n
  | [], _ => ⟨rfl, Nat.zero_le _⟩
  | d :: ds, h => by
    obtain ⟨a, b⟩ := h d List.mem_cons_self
    obtain ⟨a2, b2⟩ := lay_all fun x hx => h x (List.mem_cons_of_mem _ hx)
    have e1 : PyData.canLayAll0 (d :: ds) = (d.canLay0 && PyData.canLayAll0 ds) := rfl
    have e2 : PyData.depthAll (d :: ds) = max d.depth (PyData.depthAll ds) := rfl
    rw [e1, e2, a, a2]
    exact ⟨rfl, by omega⟩
theorem lay_tup {n : Nat} {ds : List PyData} (h : ∀ d ∈ ds, lay n d) : lay (n + 1) (.tuple ds) := by
  obtain ⟨a, b⟩ := lay_all h
  exact ⟨a, by show PyData.depthAll ds + 1 ≤ n + 1; omega⟩
theorem lay_ints {n : Nat} (ns : List Int) : lay (n + 1) (eL ns) := lay_tup fun d hd => by
  obtain ⟨i, _, rfl⟩ := List.mem_map.mp hd
  exact lay_int i
theorem lay.sh {n : Nat} {d : PyData} (h : lay n d) (hn : n ≤ 64 := by decide) : SeqAt.shaped d = true := Bool.and_eq_true_iff.mpr ⟨h.1, decide_eq_true (Nat.le_trans h.2 hn)⟩
mutual
theorem eqv_self : ∀ d : PyData, d.canLay0 = true → PyData.eqv d d = true
  | .none, _ => by rw [PyData.eqv]
  | .bool b, _ => by rw [PyData.eqv]; exact beq_self_eq_true b
  | .int i, _ => by rw [PyData.eqv]; exact beq_self_eq_true i
  | .str x, _ => by rw [PyData.eqv]; exact beq_self_eq_true x
  | .list xs, h => by rw [PyData.eqv]; exact eqvAll_self xs h
  | .tuple xs, h => by rw [PyData.eqv]; exact eqvAll_self xs h
  | .dict _, h => nomatch h
theorem eqvAll_self : ∀ ds : List PyData, PyData.canLayAll0 ds = true → PyData.eqvAll ds ds = true
  | [], _ => by rw [PyData.eqvAll]
  | d :: ds, h => by
    have h' : (d.canLay0 && PyData.canLayAll0 ds) = true := h
    obtain ⟨a, b⟩ := Bool.and_eq_true_iff.mp h'
    rw [PyData.eqvAll, eqv_self d a, eqvAll_self ds b]
    rfl
end
theorem lay.eqv {n : Nat} {d : PyData} (h : lay n d) : PyData.eqv d d = true := eqv_self d h.1
theorem lay_stt (st : Stt) : lay 2 (eStt st) := lay_tup fun d hd => by
  rcases List.mem_cons.mp hd with rfl | hd
  · exact lay_int _
  · rcases List.mem_cons.mp hd with rfl | hd
    · exact lay_int _
    · rcases List.mem_cons.mp hd with rfl | hd
      · exact lay_int _
      · rcases List.mem_cons.mp hd with rfl | hd
        · exact lay_ints _
        · nomatch hd
theorem lay_cell (c : Int × Int) : lay 1 (eCellP c) := lay_tup fun d hd => by
  rcases List.mem_cons.mp hd with rfl | hd
  · exact lay_int _
  · rcases List.mem_cons.mp hd with rfl | hd
    · exact lay_int _
    · nomatch hd
theorem lay_shownO (w : Show) (c : Option (Int × Int)) : lay 2 (eShownO w c) := by
  cases c with
  | none => exact lay_tup fun d hd => nomatch hd
  | some c =>
    refine lay_tup fun d hd => ?_
    obtain ⟨q, _, rfl⟩ := List.mem_map.mp hd
    exact lay_cell q
theorem lay_shown (s : Sky) (w : Show) (st : Stt) : lay 3 (.tuple (eShown s w st)) := lay_tup fun d hd => by
  unfold eShown at hd
  obtain ⟨k, _, rfl⟩ := List.mem_map.mp hd
  exact lay_shownO _ _
theorem lay_bad (s : Sky) (w : Show) : lay 2 (.tuple ((badCells s w).map eCellP)) := lay_tup fun d hd => by
  obtain ⟨k, _, rfl⟩ := List.mem_map.mp hd
  exact lay_cell _
theorem str_dark : PyData.strOk "dark" = true := by decide +kernel
theorem str_off : PyData.strOk "off" = true := by decide +kernel
theorem str_seam : PyData.strOk "seam" = true := by decide +kernel
theorem str_true : PyData.strOk "true" = true := by decide +kernel
theorem str_breaks : PyData.strOk "breaks" = true := by decide +kernel
theorem word_str {w : Show} {c r : Int} {x : Str} (h : wordOf w c r = some x) : PyData.strOk x = true := by
  unfold wordOf at h
  split at h
  · cases h; exact str_dark
  · split at h
    · cases h; exact str_off
    · split at h
      · cases h; exact str_seam
      · cases h
theorem fault_str {s : Sky} {w : Show} {st : Stt} : ∀ {ls : List Light} {i : Nat} {k : Int} {x : Str}, faultFrom s w st i ls = some (k, x) → PyData.strOk x = true
  | [], _, _, _, h => nomatch h
  | l :: ls, i, k, x, h => by
    unfold faultFrom at h
    cases e : wordAt s w st i l with
    | none => rw [e] at h; exact fault_str h
    | some y =>
      rw [e] at h
      cases h
      unfold wordAt at e
      split at e
      · cases e
      · exact word_str e
theorem lay_fault (s : Sky) (w : Show) (st : Stt) : lay 1 (eFault (faultBy s w st)) := by
  cases e : faultBy s w st with
  | none => exact lay_none
  | some kx =>
    obtain ⟨k, x⟩ := kx
    refine lay_tup fun d hd => ?_
    · rcases List.mem_cons.mp hd with rfl | hd
      · exact lay_int _
      · rcases List.mem_cons.mp hd with rfl | hd
        · exact lay_str (fault_str e)
        · nomatch hd

/-! ### the items without flips -/
mutual
def plI : Item → List Item
  | .go m e n => [.go m e n]
  | .flip _ => []
  | .mark => [.mark]
  | .again t xs => [.again t (plL xs)]
def plL : List Item → List Item
  | [] => []
  | x :: r => plI x ++ plL r
end
theorem okL_append {s : Sky} {d : Nat} : ∀ {xs ys : List Item}, okL s d xs → okL s d ys → okL s d (xs ++ ys)
  | [], _, _, h => h
  | x :: r, ys, h1, h2 => by
    unfold okL at h1
    rw [List.cons_append]
    unfold okL
    exact ⟨h1.1, okL_append h1.2 h2⟩
theorem plainL_append : ∀ {xs ys : List Item}, plainL xs → plainL ys → plainL (xs ++ ys)
  | [], _, _, h => h
  | x :: r, ys, h1, h2 => by
    unfold plainL at h1
    rw [List.cons_append]
    unfold plainL
    exact ⟨h1.1, plainL_append h1.2 h2⟩
theorem okL_one {s : Sky} {d : Nat} {x : Item} (h : okI s d x) : okL s d [x] := by
  unfold okL
  exact ⟨h, by unfold okL; trivial⟩
theorem okL_nil {s : Sky} {d : Nat} : okL s d [] := by unfold okL; trivial
theorem plainL_one {x : Item} (h : plainI x) : plainL [x] := by
  unfold plainL
  exact ⟨h, by unfold plainL; trivial⟩
theorem plainL_nil : plainL [] := by unfold plainL; trivial
mutual
theorem plI_ok (s : Sky) : ∀ (x : Item) (d : Nat), okI s d x → okL s d (plI x) ∧ plainL (plI x) ∧ (plI x).length ≤ 1
  | .go m e n, d, h => ⟨okL_one h, plainL_one (by unfold plainI; trivial), Nat.le_refl _⟩
  | .flip l, d, h => ⟨okL_nil, plainL_nil, Nat.zero_le _⟩
  | .mark, d, h => ⟨okL_one h, plainL_one (by unfold plainI; trivial), Nat.le_refl _⟩
  | .again t xs, 0, h => by unfold okI at h; exact h.elim
  | .again t xs, d + 1, h => by
    unfold okI at h
    obtain ⟨h1, h2, h3, h4⟩ := h
    obtain ⟨a, b, c⟩ := plL_ok s xs d h4
    refine ⟨okL_one ?_, plainL_one ?_, Nat.le_refl _⟩
    · unfold okI
      exact ⟨h1, h2, by omega, a⟩
    · unfold plainI
      exact b
theorem plL_ok (s : Sky) : ∀ (xs : List Item) (d : Nat), okL s d xs → okL s d (plL xs) ∧ plainL (plL xs) ∧ (plL xs).length ≤ xs.length
  | [], d, h => ⟨okL_nil, plainL_nil, Nat.le_refl _⟩
  | x :: r, d, h => by
    unfold okL at h
    obtain ⟨a, b, c⟩ := plI_ok s x d h.1
    obtain ⟨a2, b2, c2⟩ := plL_ok s r d h.2
    unfold plL
    exact ⟨okL_append a a2, plainL_append b b2, by rw [List.length_append, List.length_cons]; omega⟩
end
theorem plL_snoc (x : Item) : ∀ xs : List Item, plL (xs ++ [x]) = plL xs ++ plI x
  | [] => by rw [List.nil_append, plL, plL, plL, List.append_nil, List.nil_append]
  | y :: r => by rw [List.cons_append, plL, plL, plL_snoc x r, List.append_assoc]
theorem plL_take {xs : List Item} {i : Nat} {x : Item} (h : xs[i]? = some x) : plL (xs.take (i + 1)) = plL (xs.take i) ++ plI x := by
  obtain ⟨hi, rfl⟩ := List.getElem?_eq_some_iff.mp h
  rw [List.take_succ_eq_append_getElem hi, plL_snoc]
/-- xs.append(e) -/
theorem sd_app {K : PySem.W.Frag} {σ : L2.St} {H : Hp} {D : Ends} {te : TE} {d : PyData} {i : Nat} {q : Addr} {xs : List V} (hv : σ[i]? = some (some (.ref q))) (hq : H q = some (.lst xs)) (hl : xs.length ≤ 10000) (h : Ed K te σ H d)
    (c : ∀ v H1, Ex H H1 → Dt K H1 v d → D.nx σ (upd H1 q (.lst (xs ++ [v])))) : tDrop (tBM K "list" rAppend (tVar i) (tCons te tNil)) D σ H :=
  ⟨_, hv, .inl ⟨rfl, xs, sq_of hq⟩, h H (Tx.refl _) _ fun v H1 e kd => ⟨q, xs, v, rfl, rfl, e _ _ hq, sz_lt (by omega), c v H1 e kd⟩⟩
inductive R__law_plain (n : Nat) : List PyData → PyData → Prop
  | mk (s : Sky) (xs : List Item) (d : Nat) : okL s d xs → xs.length ≤ 8 → d + 1 ≤ n → R__law_plain n [eItemsT xs] (eItemsT (plL xs))
theorem st__law_plain {P : Program} {w : World} {K : PySem.W.Frag} {mg : Str → Option Value} {base : Heap} (T : Txt K mg) {n k : Nat} (G__law_plain : Good P w K mg base k "_law_plain" ["_law_items_here"] (spP K (R__law_plain n))) :
    Good P w K mg base (k + 1) "_law_plain" ["_law_items_here"] (spP K (R__law_plain (n + 1))) := by
  refine Good.of T.f__law_plain sc__law_plain (fun _ _ _ _ _ _ us hl => match us, hl with | [_], _ => rfl) (spP_len fun ds d hR => by cases hR <;> rfl) fun cdv A outer s H vs Q E hr h => ?_
  refine ⟨_, (pss_cons (ps_set (i := 1) sc__law_plain.nd rfl (.inl rfl) (pe_lst pa_nil))
    (pss_cons (ps_for PassesOwn.never rfl (pi_tup (pv 0)) (pg_name (i := 2) sc__law_plain.nd rfl (.inl rfl)) (pss_one (ps_if (pt_cmpR op_eq (pe_ix (show IxR _ (rIxT K) from ix_tup) (pv 2) pe_int (fun _ _ => rfl)) pe_str (nomark _)) (pss_one (ps_expr (pe_bm PySem.F.plainAttrs_list PySem.F.slot_list_append PySem.F.type_list_append mt_append (pv 1) (pa_cons (pe_tup (pa_cons pe_str (pa_cons (pe_ix (show IxR _ (rIxT K) from ix_tup) (pv 2) pe_int (fun _ _ => rfl)) (pa_cons (pe_g G__law_plain (hr.mono (by omega)) (pa_cons (pe_ix (show IxR _ (rIxT K) from ix_tup) (pv 2) pe_int (fun _ _ => rfl)) pa_nil)) pa_nil)))) pa_nil)))) (pss_one (ps_if (pt_cmpR op_ne (pe_ix (show IxR _ (rIxT K) from ix_tup) (pv 2) pe_int (fun _ _ => rfl)) pe_str (nomark _)) (pss_one (ps_expr (pe_bm PySem.F.plainAttrs_list PySem.F.slot_list_append PySem.F.type_list_append mt_append (pv 1) (pa_cons (pv 2) pa_nil)))) pss_nil)))))
    (pss_one (ps_ret (pe_callTy call_tuple_of rfl (T.b_tuple) (by decide +kernel) (pa_cons (pv 1) pa_nil)))))), ?_⟩
  obtain ⟨ds, d, ha, hR, hq⟩ := h
  cases hR with
  | mk s xs d hx hl hd =>
  obtain ⟨v1, rfl, h1⟩ := ha.c1
  refine sq_asgL (K := K) (el_lst ea_nil) fun q ys H1 hq0 e1 hy ky => ?_
  cases ky
  have h1 := h1.ex e1
  refine sq_forT (ds := eItems xs) (ed_var rfl h1) fun H2 e2 => ⟨fun i σ' H' => ∃ (ys : List V) (c : Option V), σ' = [some v1, some (.ref q), c] ∧ Ex H H' ∧ Tx H2 H' ∧ H' q = some (.lst ys) ∧ DtA K H' ys ((plL (xs.take i)).map eItem) ∧ ys.length ≤ i, ⟨[], none, rfl, e1.trans e2, Tx.refl _, e2 _ _ hy, .nil, Nat.le_refl _⟩, fun i σ' H' p => p.choose_spec.choose_spec.2.2.1, fun i dx v σ' H' hi p kv => ?_, fun σ' H' p => ?_⟩
  · obtain ⟨ys, c, rfl, eH, xT, hy, ky, ly⟩ := p
    obtain ⟨x, hxi, rfl⟩ := items_get hi
    have okx := okL_mem hx x (List.mem_of_getElem? hxi)
    have hlt := (List.getElem?_eq_some_iff.mp hxi).1
    have fin : ∀ (y : Item) (u : V) (H3 : Hp), Ex H' H3 → Dt K H3 u (eItem y) → plI x = [y] → ∃ (ws : List V) (c : Option V), [some v1, some (.ref q), some v] = [some v1, some (.ref q), c] ∧ Ex H (upd H3 q (.lst (ys ++ [u]))) ∧ Tx H2 (upd H3 q (.lst (ys ++ [u]))) ∧ (upd H3 q (.lst (ys ++ [u]))) q = some (.lst ws) ∧ DtA K (upd H3 q (.lst (ys ++ [u]))) ws ((plL (xs.take (i + 1))).map eItem) ∧ ws.length ≤ i + 1 := fun y u H3 e3 ku ey => by
      have tD := Tx.lst (o := .lst (ys ++ [u])) (e3 _ _ hy)
      refine ⟨ys ++ [u], some v, rfl, Ex.mut (eH.trans e3) hq0, (xT.trans (.of e3)).trans tD, upd_same, ?_, by rw [List.length_append, List.length_singleton]; omega⟩
      rw [plL_take hxi, ey, List.map_append]
      exact ((ky.ex e3).at tD).append (.cons (ku.at tD) .nil)
    have fin0 : ∀ H3, Ex H' H3 → plI x = [] → ∃ (ws : List V) (c : Option V), [some v1, some (.ref q), some v] = [some v1, some (.ref q), c] ∧ Ex H H3 ∧ Tx H2 H3 ∧ H3 q = some (.lst ws) ∧ DtA K H3 ws ((plL (xs.take (i + 1))).map eItem) ∧ ws.length ≤ i + 1 := fun H3 e3 ey => by
      refine ⟨ys, some v, rfl, eH.trans e3, xT.trans (.of e3), e3 _ _ hy, ?_, by omega⟩
      rw [plL_take hxi, ey, List.append_nil]
      exact ky.ex e3
    cases x with
    | go m e n' => exact sd_if (b := false) (eb_s (ed_ix (ed_var rfl kv) ed_int rfl)) (fun z => nomatch z) fun _ H3 e3 => sd_if (b := true) (eb_sn (ed_ix (ed_var rfl (kv.ex e3)) ed_int rfl)) (fun _ H4 e4 => sd_app (K := K) rfl ((e3.trans e4) _ _ hy) (by omega) (ed_var rfl (kv.ex (e3.trans e4))) fun u H5 e5 ku => fin _ u H5 ((e3.trans e4).trans e5) ku rfl) (fun z => nomatch z)
    | flip l => exact sd_if (b := false) (eb_s (ed_ix (ed_var rfl kv) ed_int rfl)) (fun z => nomatch z) fun _ H3 e3 => sd_if (b := false) (eb_sn (ed_ix (ed_var rfl (kv.ex e3)) ed_int rfl)) (fun z => nomatch z) fun _ H4 e4 => fin0 H4 (e3.trans e4) rfl
    | mark => exact sd_if (b := false) (eb_s (ed_ix (ed_var rfl kv) ed_int rfl)) (fun z => nomatch z) fun _ H3 e3 => sd_if (b := true) (eb_sn (ed_ix (ed_var rfl (kv.ex e3)) ed_int rfl)) (fun _ H4 e4 => sd_app (K := K) rfl ((e3.trans e4) _ _ hy) (by omega) (ed_var rfl (kv.ex (e3.trans e4))) fun u H5 e5 ku => fin _ u H5 ((e3.trans e4).trans e5) ku rfl) (fun z => nomatch z)
    | again t zs =>
      cases d with
      | zero => unfold okI at okx; exact okx.elim
      | succ d =>
      unfold okI at okx
      obtain ⟨g1, g2, g3, g4⟩ := okx
      exact sd_if (b := true) (eb_s (ed_ix (ed_var rfl kv) ed_int rfl)) (fun _ H3 e3 => sd_app (K := K) (d := eItem (.again t (plL zs))) rfl (e3 _ _ hy) (by omega) (ed_tup (ea_cons ed_str (ea_cons (ed_ix (ed_var rfl (kv.ex e3)) ed_int rfl) (ea_cons (ed_call (ea_cons (ed_ix (ed_var rfl (kv.ex e3)) ed_int rfl) ea_nil) (.mk s zs d g4 (by omega) (by omega))) ea_nil)))) fun u H5 e5 ku => fin _ u H5 (e3.trans e5) ku rfl) (fun z => nomatch z)
  · obtain ⟨ys, c, rfl, eH, xT, hy, ky, ly⟩ := p
    rw [items_len, List.take_length] at ky
    refine ⟨.ref q, rfl, q, ys, rfl, .inl ⟨sq_of hy, fun t ht => hq _ _ (eH.trans (Ex.new ht)) ?_⟩⟩
    unfold eItemsT
    rw [eItems_map]
    exact .tup (st_of upd_same) (ky.ex (Ex.new ht))
abbrev sp__law_plain (K : PySem.W.Frag) : Sp := spP K (R__law_plain 4)
abbrev Gd__law_plain (P : Program) (w : World) (K : PySem.W.Frag) (mg : Str → Option Value) (base : Heap) : Prop := Good P w K mg base 4 "_law_plain" ["_law_items_here"] (sp__law_plain K)
theorem ok__law_plain {P : Program} {w : World} {K : PySem.W.Frag} {mg : Str → Option Value} {base : Heap} (T : Txt K mg) : Gd__law_plain P w K mg base := by
  have z : Good P w K mg base 0 "_law_plain" ["_law_items_here"] (spP K (R__law_plain 0)) := Good.none T.f__law_plain (fun _ _ _ _ _ _ us hl => match us, hl with | [_], _ => rfl) fun vs H Q E h => by
    obtain ⟨ds, d, _, hR, _⟩ := h
    cases hR with
    | mk s xs d _ _ hd => omega
  exact st__law_plain T (st__law_plain T (st__law_plain T (st__law_plain T z)))

/-! ### a cell, a beat -/
def sp__law_cell (K : PySem.W.Frag) : Sp := fun vs H Q _ => ∃ (a : Addr) (ns : List Int), vs = [.ref a, .int 0] ∧ SqL K H a (ns.map V.int) ∧ ∀ i H', Ex H H' → Q (.int i) H'
theorem len__law_cell {K : PySem.W.Frag} : ∀ vs H Q E, sp__law_cell K vs H Q E → vs.length = ["_law_script", "_law_k"].length := fun vs H Q E h => by
  obtain ⟨a, ns, rfl, _⟩ := h
  rfl
abbrev Gd__law_cell (P : Program) (w : World) (K : PySem.W.Frag) (mg : Str → Option Value) (base : Heap) : Prop := Good P w K mg base 1 "_law_cell" ["_law_script", "_law_k"] (sp__law_cell K)
theorem ok__law_cell {P : Program} {w : World} {K : PySem.W.Frag} {mg : Str → Option Value} {base : Heap} (T : Txt K mg) : Gd__law_cell P w K mg base := by
  refine Good.of T.f__law_cell sc__law_cell (fun _ _ _ _ _ _ us hl => match us, hl with | [_, _], _ => rfl) len__law_cell fun cdv A outer s H vs Q E hr h => ?_
  refine ⟨_, (pss_cons (ps_if (pt_cmpR op_lt (pv 1) (pe_callB (show CallR _ (.builtin "len") (rLenQ K) from call_len_seq) rfl (T.b_len) (by decide +kernel) (pa_cons (pv 0) pa_nil)) (nomark _)) (pss_one (ps_ret (pe_ix (show IxR _ (rIxL K) from ix_list) (pv 0) (pv 1) (fun _ _ => rfl)))) pss_nil)
    (pss_one (ps_ret pe_int))), ?_⟩
  obtain ⟨a, ns, rfl, hS, hq⟩ := h
  refine sq_ifNX (b := decide (0 < ns.length)) (fun Q2 q2 => ⟨_, rfl, .ref a, rfl, a, _, rfl, .inl hS, 0, ((ns.map V.int).length : Int), rfl, rfl, _, rfl, ?_⟩) (fun z H1 e1 => ?_) fun z H1 e1 => ?_
  · have e : decide ((0 : Int) < ((ns.map V.int).length : Int)) = decide (0 < ns.length) := by
      rw [List.length_map]
      by_cases h : 0 < ns.length
      · rw [decide_eq_true h, decide_eq_true (by omega)]
      · rw [decide_eq_false h, decide_eq_false (by omega)]
    rw [e]
    exact q2 H (Ex.refl H)
  · have z0 := of_decide_eq_true z
    cases ns with
    | nil => exact absurd z0 (by decide)
    | cons i r => exact ⟨.ref a, rfl, .int 0, rfl, a, _, 0, .int i, rfl, rfl, ex_l e1 hS, at_nat (j := 0) rfl rfl, hq i H1 e1⟩
  · exact sd_ret (K := K) (ed_int (i := 0)) fun v H2 e2 kv => by
      cases kv
      exact hq 0 H2 (e1.trans e2)
inductive R__law_beat : List PyData → PyData → Prop
  | mk (s : Sky) (wd : Show) (xs : List Item) (st : Stt) : R__law_beat [eLook s wd xs st, .int (sizeL xs)] (.int (lookBeat s wd xs st))
abbrev sp__law_beat (K : PySem.W.Frag) : Sp := spP K R__law_beat
abbrev Gd__law_beat (P : Program) (w : World) (K : PySem.W.Frag) (mg : Str → Option Value) (base : Heap) : Prop := Good P w K mg base 1 "_law_beat" ["_law_found", "_law_many"] (sp__law_beat K)
theorem ok__law_beat {P : Program} {w : World} {K : PySem.W.Frag} {mg : Str → Option Value} {base : Heap} (T : Txt K mg) : Gd__law_beat P w K mg base := by
  refine Good.of T.f__law_beat sc__law_beat (fun _ _ _ _ _ _ us hl => match us, hl with | [_, _], _ => rfl) (spP_len fun ds d hR => by cases hR <;> rfl) fun cdv A outer s H vs Q E hr h => ?_
  refine ⟨_, (pss_one (ps_ret (pe_ifExp (pt_cmpR op_eq (pe_ix (show IxR _ (rIxT K) from ix_tup) (pv 0) pe_int (fun _ _ => rfl)) pe_str (nomark _)) (pe_ix (show IxR _ (rIxT K) from ix_tup) (pv 0) pe_int (fun _ _ => rfl)) (pe_op op_add (pv 1) pe_int)))), ?_⟩
  obtain ⟨ds, d, ha, hR, hq⟩ := h
  cases hR with
  | mk s wd xs st =>
  obtain ⟨v1, v2, rfl, h1, h2⟩ := ha.c2
  cases e : firstWhere s wd xs st with
  | none =>
    have e1 : eLook s wd xs st = .tuple [.str "true", .int (sizeL xs)] := by unfold eLook; rw [e]
    have e2 : lookBeat s wd xs st = sizeL xs + 1 := by unfold lookBeat; rw [e]
    rw [e1] at h1
    rw [e2] at hq
    exact sd_ret (ed_if (b := false) (eb_s (ed_ix (ed_var rfl h1) ed_int rfl)) (fun z => nomatch z) fun _ => ed_add (ed_var rfl h2) ed_int) hq
  | some b =>
    have e1 : ∃ r, eLook s wd xs st = .tuple (.str "breaks" :: .int b :: r) := by unfold eLook; rw [e]; exact ⟨_, rfl⟩
    have e2 : lookBeat s wd xs st = b := by unfold lookBeat; rw [e]
    obtain ⟨r, e1⟩ := e1
    rw [e1] at h1
    rw [e2] at hq
    exact sd_ret (ed_if (b := true) (eb_s (ed_ix (ed_var rfl h1) ed_int (at_nat (j := 0) rfl rfl))) (fun _ => ed_ix (ed_var rfl h1) ed_int (at_nat (j := 1) rfl rfl)) (fun z => nomatch z)) hq
end Dome
/-! the law's two large questions -/
namespace Dome
open PySem PySem.Spec PyProof.Rows L2 Evl

theorem el_listRg {K : PySem.W.Frag} {σ : L2.St} {H : Hp} {te : TE} {n : Nat} (h : Ed K te σ H (.int (n : Int))) (hn : n ≤ 1000) : El K (tLstRg (tRg1 te)) σ H (((List.range n).map fun i => ((i : Nat) : Int)).map .int) := fun H1 e Q q =>
  h H1 e _ fun v H2 e2 kv => by
    cases kv
    refine ⟨(n : Int), rfl, RgOk.of_le (Int.le_refl 0) (by omega) (by decide) (by omega), fun p hp => ?_⟩
    have er : rgV 0 (n : Int) = ((List.range n).map fun i => ((i : Nat) : Int)).map V.int := by
      unfold rgV
      rw [List.map_map, show ((n : Int) - 0).toNat = n by omega]
      exact List.map_congr_left fun i _ => congrArg V.int (Int.zero_add _)
    rw [er]
    exact q p _ _ (fresh_back e2 hp) (e2.trans (Ex.new hp)) upd_same (DtA.ofInts _)
def allHid (s : Sky) : List Int := (List.range s.lights.length).map fun i => ((i : Nat) : Int)
def addS (hid : List Int) (k : Int) : List Int := if k ∈ hid then hid else ins k hid
theorem ins_lt (x : Int) : ∀ l : List Int, x ∉ l → l.Pairwise (· < ·) → (ins x l).Pairwise (· < ·)
  | [], _, _ => List.pairwise_singleton _ _
  | y :: r, hx, h => by
    obtain ⟨h1, h2⟩ := List.pairwise_cons.mp h
    unfold ins
    have xy : x ≠ y := fun e => hx (by rw [e]; exact List.mem_cons_self)
    split
    · rename_i q
      refine List.pairwise_cons.mpr ⟨fun z hz => ?_, h⟩
      rcases List.mem_cons.mp hz with rfl | hz
      · omega
      · have := h1 z hz; omega
    · rename_i q
      refine List.pairwise_cons.mpr ⟨fun z hz => ?_, ins_lt x r (fun z => hx (List.mem_cons_of_mem _ z)) h2⟩
      rcases List.mem_cons.mp ((ins_perm x r).mem_iff.mp hz) with rfl | hz
      · omega
      · exact h1 z hz
theorem addS_lt {hid : List Int} {k : Int} (h : hid.Pairwise (· < ·)) : (addS hid k).Pairwise (· < ·) := by
  unfold addS
  split
  · exact h
  · rename_i q
    exact ins_lt k hid q h
theorem addS_mem {hid : List Int} {k x : Int} : x ∈ addS hid k ↔ x ∈ hid ∨ x = k := by
  unfold addS
  split
  · rename_i q
    constructor
    · exact .inl
    · rintro (h | rfl)
      · exact h
      · exact q
  · rw [(ins_perm k hid).mem_iff, List.mem_cons]
    constructor
    · rintro (h | h)
      · exact .inr h
      · exact .inl h
    · rintro (h | h)
      · exact .inr h
      · exact .inl h
theorem addS_len {hid : List Int} {k : Int} : (addS hid k).length ≤ hid.length + 1 := by
  unfold addS
  split
  · omega
  · rw [(ins_perm k hid).length_eq, List.length_cons]; omega
theorem allHid_ok (s : Sky) (st : Stt) : Stt.ok s ⟨st.m, st.e, st.n, allHid s⟩ := by
  refine ⟨?_, fun l hl => ?_⟩
  · show (allHid s).Pairwise (· < ·)
    unfold allHid
    rw [List.pairwise_map]
    exact (List.pairwise_lt_range).imp fun h => by omega
  · have hl : l ∈ allHid s := hl
    unfold allHid at hl
    obtain ⟨i, hi, rfl⟩ := List.mem_map.mp hl
    have := List.mem_range.mp hi
    omega
theorem addS_ok {s : Sky} {st : Stt} {k : Nat} (h : st.ok s) (hk : k < s.lights.length) : Stt.ok s ⟨st.m, st.e, st.n, addS st.hid (k : Int)⟩ := by
  refine ⟨addS_lt h.rise, fun l hl => ?_⟩
  rcases addS_mem.mp hl with h' | rfl
  · exact h.rng l h'
  · omega
/-- the plain law of more hidden lights -/
structure MoreLaw (s : Sky) (wd : Show) (xs : List Item) (st : Stt) : Prop where
  ok : ∀ hid', Stt.ok s ⟨st.m, st.e, st.n, hid'⟩ → lookOk s wd xs ⟨st.m, st.e, st.n, hid'⟩
  le : ∀ k : Nat, k < s.lights.length → lookBeat s wd xs st ≤ lookBeat s wd xs ⟨st.m, st.e, st.n, addS st.hid (k : Int)⟩
  a1 : firstWhere s wd xs ⟨st.m, st.e, st.n, allHid s⟩ = none
  a2 : faultBy s wd ⟨st.m, st.e, st.n, allHid s⟩ = none
  a3 : eShown s wd ⟨st.m, st.e, st.n, allHid s⟩ = List.replicate s.lights.length (.tuple [])
inductive R__law_more_right : List PyData → PyData → Prop
  | mk (s : Sky) (wd : Show) (xs : List Item) (d : Nat) (st : Stt) : Free s wd xs d st → st.hid.length ≤ 40 → MoreLaw s wd xs st → R__law_more_right [eSky s, eShow wd, eItemsT xs, eStt st] (.bool true)
abbrev sp__law_more_right (K : PySem.W.Frag) : Sp := spP K R__law_more_right
abbrev Gd__law_more_right (P : Program) (w : World) (K : PySem.W.Frag) (mg : Str → Option Value) (base : Heap) : Prop := Good P w K mg base 26 "_law_more_right" ["_law_sky_here", "_law_show_here", "_law_scene", "_law_state_here"] (sp__law_more_right K)
theorem ok__law_more_right {P : Program} {w : World} {K : PySem.W.Frag} {mg : Str → Option Value} {base : Heap} (T : Txt K mg) (G_beats_of : Gd_beats_of P w K mg base) (G__law_beat : Gd__law_beat P w K mg base) (G_looked_through : Gd_looked_through P w K mg base) (G_shown : Gd_shown P w K mg base) (G_fault : Gd_fault P w K mg base) : Gd__law_more_right P w K mg base := by
  refine Good.of T.f__law_more_right sc__law_more_right (fun _ _ _ _ _ _ us hl => match us, hl with | [_, _, _, _], _ => rfl) (spP_len fun ds d hR => by cases hR <;> rfl) fun cdv A outer s H vs Q E hr h => ?_
  refine ⟨_, (pss_cons (ps_set (i := 4) sc__law_more_right.nd rfl (.inl rfl) (pe_g G_beats_of (hr.mono (by omega)) (pa_cons (pv 0) (pa_cons (pv 2) pa_nil))))
    (pss_cons (ps_set (i := 5) sc__law_more_right.nd rfl (.inl rfl) (pe_g G__law_beat (hr.mono (by omega)) (pa_cons (pe_g G_looked_through (hr.mono (by omega)) (pa_cons (pv 0) (pa_cons (pv 1) (pa_cons (pv 2) (pa_cons (pv 3) pa_nil))))) (pa_cons (pv 4) pa_nil))))
    (pss_cons (ps_for PassesOwn.never rfl (pi_range1 rfl (T.b_range) (pa_cons (pe_callB (show CallR _ (.builtin "len") (rLenQ K) from call_len_seq) rfl (T.b_len) (by decide +kernel) (pa_cons (pe_ix (show IxR _ (rIxT K) from ix_tup) (pv 0) pe_int (fun _ _ => rfl)) pa_nil)) pa_nil)) (pg_name (i := 6) sc__law_more_right.nd rfl (.inl rfl)) (pss_cons (ps_set (i := 7) sc__law_more_right.nd rfl (.inl rfl) (pe_callTy call_tuple_of rfl (T.b_tuple) (by decide +kernel) (pa_cons (pe_callB (cr_sortedSet rfl) rfl (T.b_sorted) (by decide +kernel) (pa_cons (pe_callTy (cr_setT rfl) rfl (T.b_set) (by decide +kernel) (pa_cons (pe_op op_catA (pe_ix (show IxR _ (rIxT K) from ix_tup) (pv 3) pe_int (fun _ _ => rfl)) (pe_tup (pa_cons (pv 6) pa_nil))) pa_nil)) pa_nil)) pa_nil)))
    (pss_one (ps_if (pt_cmpR op_lt (pe_g G__law_beat (hr.mono (by omega)) (pa_cons (pe_g G_looked_through (hr.mono (by omega)) (pa_cons (pv 0) (pa_cons (pv 1) (pa_cons (pv 2) (pa_cons (pe_op op_catA (pe_slice sl_tupA (pv 3) po_none (po_some pe_int)) (pe_tup (pa_cons (pv 7) pa_nil))) pa_nil))))) (pa_cons (pv 4) pa_nil))) (pv 5) (nomark _)) (pss_one (ps_ret pe_bl)) pss_nil))))
    (pss_cons (ps_set (i := 8) sc__law_more_right.nd rfl (.inl rfl) (pe_op op_catA (pe_slice sl_tupA (pv 3) po_none (po_some pe_int)) (pe_tup (pa_cons (pe_callTy call_tuple_of rfl (T.b_tuple) (by decide +kernel) (pa_cons (pe_listRg rfl rfl (T.b_list) (prg_1 rfl (T.b_range) (pe_callB (show CallR _ (.builtin "len") (rLenQ K) from call_len_seq) rfl (T.b_len) (by decide +kernel) (pa_cons (pe_ix (show IxR _ (rIxT K) from ix_tup) (pv 0) pe_int (fun _ _ => rfl)) pa_nil)))) pa_nil)) pa_nil))))
    (pss_cons (ps_if (PW.pt (pw_or (pt_cmpR (op_neD hr.units) (pe_g G_shown (hr.mono (by omega)) (pa_cons (pv 0) (pa_cons (pv 1) (pa_cons (pv 8) pa_nil)))) (pe_op op_repN (pe_tup (pa_cons (pe_tup pa_nil) pa_nil)) (pe_callB (show CallR _ (.builtin "len") (rLenQ K) from call_len_seq) rfl (T.b_len) (by decide +kernel) (pa_cons (pe_ix (show IxR _ (rIxT K) from ix_tup) (pv 0) pe_int (fun _ _ => rfl)) pa_nil))) (nomark _)) (pw_or1 (pt_cmpR op_notN (pe_g G_fault (hr.mono (by omega)) (pa_cons (pv 0) (pa_cons (pv 1) (pa_cons (pv 8) pa_nil)))) pe_non (nomark _))))) (pss_one (ps_ret pe_bl)) pss_nil)
    (pss_one (ps_ret (pe_cmpR (op_eqD hr.units) (pe_g G_looked_through (hr.mono (by omega)) (pa_cons (pv 0) (pa_cons (pv 1) (pa_cons (pv 2) (pa_cons (pv 8) pa_nil))))) (pe_tup (pa_cons pe_str (pa_cons (pv 4) pa_nil))) (nomark _))))))))), ?_⟩
  obtain ⟨ds, d, ha, hR, hq⟩ := h
  cases hR with
  | mk s wd xs d st F hl M =>
  obtain ⟨v1, v2, v3, v4, rfl, h1, h2, h3, h4⟩ := ha.c4
  have hs := F.hs
  have ln := F.ln
  have n1 := hs.n1
  have n2 := hs.n2
  have al : (allHid s).length ≤ 6 := by unfold allHid; rw [List.length_map, List.length_range]; exact n2
  have fr : ∀ hid', Stt.ok s ⟨st.m, st.e, st.n, hid'⟩ → hid'.length ≤ 50 → Free s wd xs d ⟨st.m, st.e, st.n, hid'⟩ := fun hid' ho hl' => ⟨hs, F.hw, ho, hl', F.ok, F.pl, ln, F.d3, F.n1, F.n2⟩
  refine sq_asg (ed_call (ea_cons (ed_var rfl h1) (ea_cons (ed_var rfl h3) ea_nil)) (.mk s xs d hs F.ok (by omega) F.d3)) fun x1 H1 e1 k1 => ?_
  cases k1
  have h1 := h1.ex e1
  have h2 := h2.ex e1
  have h3 := h3.ex e1
  have h4 := h4.ex e1
  refine sq_asg (K := K) (d := .int (lookBeat s wd xs st)) (ed_call (ea_cons (ed_call (ea_cons (ed_var rfl h1) (ea_cons (ed_var rfl h2) (ea_cons (ed_var rfl h3) (ea_cons (ed_var rfl h4) ea_nil)))) (.mk s wd xs d st F (M.ok st.hid F.so))) (ea_cons (ed_var rfl (.int (sizeL xs))) ea_nil)) (.mk s wd xs st)) fun x2 H2 e2 k2 => ?_
  cases k2
  have h1 := h1.ex e2
  have h2 := h2.ex e2
  have h3 := h3.ex e2
  have h4 := h4.ex e2
  have e12 := e1.trans e2
  refine sq_forR (K := K) (n := s.lights.length) (ea_cons (ed_is (ed_len (ed_ix (ed_var rfl h1) ed_int rfl)) (by rw [List.length_map])) ea_nil) (by omega) fun H3 e3 => ⟨fun i σ' H' => (∃ c6 c7 : Option V, σ' = [some v1, some v2, some v3, some v4, some (.int (sizeL xs)), some (.int (lookBeat s wd xs st)), c6, c7, none]) ∧ Ex H3 H', ⟨⟨none, none, rfl⟩, Ex.refl _⟩, fun i σ' H' hi pv => ?_, fun σ' H' pv => ?_⟩
  · obtain ⟨⟨c6, c7, rfl⟩, eH⟩ := pv
    have eI := e3.trans eH
    have h1 := h1.ex eI
    have h2 := h2.ex eI
    have h3 := h3.ex eI
    have h4 := h4.ex eI
    refine sq_asg (K := K) (d := eL (addS st.hid (i : Int))) (ed_tuple (ed_sortedSet (ns := st.hid ++ [(i : Int)]) (ms := addS st.hid (i : Int)) (ed_is (ed_cat (ds := st.hid.map .int) (es := [.int (i : Int)]) (ed_ix (ed_var rfl h4) ed_int rfl) (ed_tup (ea_cons (ed_var rfl (.int (i : Int))) ea_nil)) (by rw [List.length_map, List.length_singleton]; omega)) (by rw [List.map_append]; rfl)) (by rw [List.length_append, List.length_singleton]; omega) (addS_lt F.so.rise) fun k => by rw [addS_mem, List.mem_append, List.mem_singleton])) fun x3 H4 e4 k3 => ?_
    have h1 := h1.ex e4
    have h2 := h2.ex e4
    have h3 := h3.ex e4
    have h4 := h4.ex e4
    have ok' := addS_ok F.so hi
    have ll := addS_len (hid := st.hid) (k := (i : Int))
    refine sd_no (eb_is (eb_val (K := K) (ed_lt (ed_call (ea_cons (ed_call (ea_cons (ed_var rfl h1) (ea_cons (ed_var rfl h2) (ea_cons (ed_var rfl h3) (ea_cons (d := eStt ⟨st.m, st.e, st.n, addS st.hid (i : Int)⟩) (ed_cat (ds := [.int st.m, .int st.e, .int st.n]) (es := [eL (addS st.hid (i : Int))]) (ed_is (ed_sl (ed_var rfl h4) eo_none (eo_some (K := K) ed_int)) rfl) (ed_tup (ea_cons (ed_var rfl k3) ea_nil))) ea_nil)))) (.mk s wd xs d ⟨st.m, st.e, st.n, addS st.hid (i : Int)⟩ (fr _ ok' (by omega)) (M.ok _ ok'))) (ea_cons (ed_var rfl (.int (sizeL xs))) ea_nil)) (.mk s wd xs ⟨st.m, st.e, st.n, addS st.hid (i : Int)⟩)) (ed_var rfl (.int (lookBeat s wd xs st))))) ?_) fun H5 e5 => ⟨⟨_, _, rfl⟩, (eH.trans e4).trans e5⟩
    have := M.le i hi
    exact decide_eq_false (by omega)
  · obtain ⟨⟨c6, c7, rfl⟩, eH⟩ := pv
    have eI := e3.trans eH
    have h1 := h1.ex eI
    have h2 := h2.ex eI
    have h3 := h3.ex eI
    have h4 := h4.ex eI
    have ok' := allHid_ok s st
    refine sq_asg (K := K) (d := eStt ⟨st.m, st.e, st.n, allHid s⟩) (ed_cat (ds := [.int st.m, .int st.e, .int st.n]) (es := [eL (allHid s)]) (ed_is (ed_sl (ed_var rfl h4) eo_none (eo_some (K := K) ed_int)) rfl) (ed_tup (ea_cons (ed_tuple (el_listRg (ed_is (ed_len (ed_ix (ed_var rfl h1) ed_int rfl)) (by rw [List.length_map])) (by omega))) ea_nil))) fun x3 H4 e4 k3 => ?_
    have h1 := h1.ex e4
    have h2 := h2.ex e4
    have h3 := h3.ex e4
    have er : (List.replicate ((s.lights.length : Nat) : Int).toNat [PyData.tuple []]).flatten = List.replicate s.lights.length (.tuple []) := by
      rw [Int.toNat_natCast]
      generalize s.lights.length = n
      induction n with
      | zero => rfl
      | succ n ih => rw [List.replicate_succ, List.replicate_succ, List.flatten_cons, ih]; rfl
    have lsh := lay_shown s wd ⟨st.m, st.e, st.n, allHid s⟩
    rw [M.a3] at lsh
    refine sq_no (eb_or (a := false) (b := false) (eb_is (eb_val (K := K) (ed_neD (ed_is (ed_call (ea_cons (ed_var rfl h1) (ea_cons (ed_var rfl h2) (ea_cons (ed_var rfl k3) ea_nil))) (.mk s wd ⟨st.m, st.e, st.n, allHid s⟩ hs F.hw ok' (by show (allHid s).length ≤ 1000; omega))) (congrArg PyData.tuple M.a3)) (ed_is (ed_rep (n := (s.lights.length : Int)) (ed_tup (ea_cons (ed_tup ea_nil) ea_nil)) (ed_is (ed_len (ed_ix (ed_var rfl h1) ed_int rfl)) (by rw [List.length_map])) (by omega) (by omega) (by simp) (Nat.le_of_ble_eq_true rfl)) (congrArg PyData.tuple er)) lsh.sh lsh.sh)) (by rw [lsh.eqv]; rfl)) fun _ => eb_is (eb_val (K := K) (ed_notN (ed_call (ea_cons (ed_var rfl h1) (ea_cons (ed_var rfl h2) (ea_cons (ed_var rfl k3) ea_nil))) (.mk s wd ⟨st.m, st.e, st.n, allHid s⟩ hs F.hw ok' (by show (allHid s).length ≤ 1000; omega))))) (by rw [M.a2]; rfl)) fun H5 e5 => ?_
    have h1 := h1.ex e5
    have h2 := h2.ex e5
    have h3 := h3.ex e5
    have k3 := k3.ex e5
    have el : eLook s wd xs ⟨st.m, st.e, st.n, allHid s⟩ = .tuple [.str "true", .int (sizeL xs)] := by unfold eLook; rw [M.a1]
    have ly : lay 1 (.tuple [.str "true", .int (sizeL xs)]) := lay_tup fun d hd => by
      rcases List.mem_cons.mp hd with rfl | hd
      · exact lay_str str_true
      · rcases List.mem_cons.mp hd with rfl | hd
        · exact lay_int _
        · nomatch hd
    exact sd_ret (ed_is (ed_eqD (ed_is (ed_call (ea_cons (ed_var rfl h1) (ea_cons (ed_var rfl h2) (ea_cons (ed_var rfl h3) (ea_cons (ed_var rfl k3) ea_nil)))) (.mk s wd xs d ⟨st.m, st.e, st.n, allHid s⟩ (fr _ ok' (by omega)) (M.ok _ ok'))) el) (ed_tup (ea_cons ed_str (ea_cons (ed_var rfl (.int (sizeL xs))) ea_nil))) ly.sh ly.sh) (congrArg PyData.bool ly.eqv)) fun v H6 e6 => hq v H6 ((((e12.trans eI).trans e4).trans e5).trans e6)

/-! ### a sky without its last light -/
def fewer (s : Sky) : Sky := ⟨s.wide, s.high, s.lights.dropLast⟩
def lastOf (s : Sky) : Int := (s.lights.length : Int) - 1
def sttOne (s : Sky) (st : Stt) : Stt := ⟨st.m, st.e, st.n, (st.hid.filter fun l => !decide (l = lastOf s)) ++ [lastOf s]⟩
def sttOther (s : Sky) (st : Stt) : Stt := ⟨st.m, st.e, st.n, st.hid.filter fun l => !decide (l = lastOf s)⟩
theorem fewer_ok {s : Sky} (h : s.ok) (h2 : 2 ≤ s.lights.length) : (fewer s).ok := by
  refine ⟨h.w1, h.w2, h.h1, h.h2, ?_, ?_, fun l hl => h.ls l (List.dropLast_subset _ hl)⟩
  · show 1 ≤ s.lights.dropLast.length
    rw [List.length_dropLast]; omega
  · show s.lights.dropLast.length ≤ 6
    rw [List.length_dropLast]
    have := h.n2
    omega
theorem show_fewer {s : Sky} {w : Show} (h : w.ok s) : w.ok (fewer s) := ⟨h.n1, h.n2, h.ls, h.no, h.of, h.s1, h.s2⟩
theorem other_mem {s : Sky} {st : Stt} (ho : st.ok s) {l : Int} (h : l ∈ (sttOther s st).hid) : 0 ≤ l ∧ l < lastOf s := by
  obtain ⟨h1, h2⟩ := List.mem_filter.mp h
  have h3 := ho.rng l h1
  have h4 : l ≠ lastOf s := by simpa using h2
  unfold lastOf at h4 ⊢
  omega
theorem one_ok {s : Sky} {st : Stt} (h : st.ok s) (h1 : 1 ≤ s.lights.length) : (sttOne s st).ok s := by
  refine ⟨List.pairwise_append.mpr ⟨h.rise.filter _, List.pairwise_singleton _ _, fun a ha b hb => ?_⟩, fun l hl => ?_⟩
  · have := other_mem h ha
    rw [List.mem_singleton.mp hb]
    exact this.2
  · rcases List.mem_append.mp hl with hl | hl
    · have := other_mem h hl
      unfold lastOf at this
      omega
    · rw [List.mem_singleton.mp hl]
      unfold lastOf
      omega
theorem other_ok {s : Sky} {st : Stt} (h : st.ok s) (h1 : 1 ≤ s.lights.length) : (sttOther s st).ok (fewer s) := by
  refine ⟨h.rise.filter _, fun l hl => ?_⟩
  have := other_mem h hl
  unfold lastOf at this
  show 0 ≤ l ∧ l ≤ (s.lights.dropLast.length : Int) - 1
  rw [List.length_dropLast]
  omega
structure FewerLaw (s : Sky) (wd : Show) (st : Stt) : Prop where
  sh : eShown s wd (sttOne s st) = eShown (fewer s) wd (sttOther s st) ++ [.tuple []]
  fa : faultBy s wd (sttOne s st) = faultBy (fewer s) wd (sttOther s st)
inductive R__law_fewer_right : List PyData → PyData → Prop
  | mk (s : Sky) (wd : Show) (st : Stt) : s.ok → wd.ok s → st.ok s → st.hid.length ≤ 40 → 2 ≤ s.lights.length → FewerLaw s wd st → R__law_fewer_right [eSky s, eShow wd, eStt st] (.bool true)
abbrev sp__law_fewer_right (K : PySem.W.Frag) : Sp := spP K R__law_fewer_right
theorem cutD_last {ds : List PyData} : cutD ds none (some (-1)) = ds.dropLast := by
  unfold cutD
  have e : HT.sIx ds.length 0 none = 0 := rfl
  have e2 : HT.sIx ds.length ds.length (some (-1)) = ((-1 : Int) + (ds.length : Int)).toNat := rfl
  rw [e, e2, List.drop_zero, List.dropLast_eq_take]
  congr 1
  omega
abbrev Gd__law_fewer_right (P : Program) (w : World) (K : PySem.W.Frag) (mg : Str → Option Value) (base : Heap) : Prop := Good P w K mg base 8 "_law_fewer_right" ["_law_sky_here", "_law_show_here", "_law_state_here"] (sp__law_fewer_right K)
theorem ok__law_fewer_right {P : Program} {w : World} {K : PySem.W.Frag} {mg : Str → Option Value} {base : Heap} (T : Txt K mg) (G_shown : Gd_shown P w K mg base) (G_fault : Gd_fault P w K mg base) (G_bad_cells : Gd_bad_cells P w K mg base) : Gd__law_fewer_right P w K mg base := by
  refine Good.of T.f__law_fewer_right sc__law_fewer_right (fun _ _ _ _ _ _ us hl => match us, hl with | [_, _, _], _ => rfl) (spP_len fun ds d hR => by cases hR <;> rfl) fun cdv A outer s H vs Q E hr h => ?_
  refine ⟨_, (pss_cons (ps_set (i := 3) sc__law_fewer_right.nd rfl (.inr rfl) (pe_op op_sub (pe_callB (show CallR _ (.builtin "len") (rLenQ K) from call_len_seq) rfl (T.b_len) (by decide +kernel) (pa_cons (pe_ix (show IxR _ (rIxT K) from ix_tup) (pv 0) pe_int (fun _ _ => rfl)) pa_nil)) pe_int))
    (pss_cons (ps_par (i := 4) (j := 5) rfl sc__law_fewer_right.nd rfl rfl (by decide) rfl rfl (pa_cons (pe_op op_catA (pe_slice sl_tupA (pv 0) po_none (po_some pe_int)) (pe_tup (pa_cons (pe_slice sl_tupA (pe_ix (show IxR _ (rIxT K) from ix_tup) (pv 0) pe_int (fun _ _ => rfl)) po_none (po_some (pe_un un_neg pe_int))) pa_nil))) (pa_cons (pe_callTy call_tuple_of rfl (T.b_tuple) (by decide +kernel) (pa_cons (pe_lc rfl sc__law_fewer_right.nd (pi_tup (pe_ix (show IxR _ (rIxT K) from ix_tup) (pv 2) pe_int (fun _ _ => rfl))) (blkOk_by (own := [("_law_light", 8)]) (N := N__law_fewer_right) (sc := defScope s__law_fewer_right) (by decide +kernel)) (fun _ _ _ _ _ => (pg_name (i := 8) sc__law_fewer_right.nd rfl (.inl rfl))) (fun _ _ _ _ _ => pts_one (pt_cmpR op_ne (pv 8) (pv 3) (nomark _))) (fun _ _ _ _ _ => (pv 8))) pa_nil)) pa_nil)) (by rfl))
    (pss_cons (ps_par (i := 6) (j := 7) rfl sc__law_fewer_right.nd rfl rfl (by decide) rfl rfl (pa_cons (pe_op op_catA (pe_slice sl_tupA (pv 2) po_none (po_some pe_int)) (pe_tup (pa_cons (pe_op op_catA (pv 5) (pe_tup (pa_cons (pv 3) pa_nil))) pa_nil))) (pa_cons (pe_op op_catA (pe_slice sl_tupA (pv 2) po_none (po_some pe_int)) (pe_tup (pa_cons (pv 5) pa_nil))) pa_nil)) (by rfl))
    (pss_cons (ps_if (pt_cmpR (op_neD hr.units) (pe_g G_shown (hr.mono (by omega)) (pa_cons (pv 0) (pa_cons (pv 1) (pa_cons (pv 6) pa_nil)))) (pe_op op_catA (pe_g G_shown (hr.mono (by omega)) (pa_cons (pv 4) (pa_cons (pv 1) (pa_cons (pv 7) pa_nil)))) (pe_tup (pa_cons (pe_tup pa_nil) pa_nil))) (nomark _)) (pss_one (ps_ret pe_bl)) pss_nil)
    (pss_one (ps_ret (pe_and (pe_cmpR (op_eqD hr.units) (pe_g G_fault (hr.mono (by omega)) (pa_cons (pv 0) (pa_cons (pv 1) (pa_cons (pv 6) pa_nil)))) (pe_g G_fault (hr.mono (by omega)) (pa_cons (pv 4) (pa_cons (pv 1) (pa_cons (pv 7) pa_nil)))) (nomark _)) (pe_one (pe_cmpR (op_eqD hr.units) (pe_g G_bad_cells (hr.mono (by omega)) (pa_cons (pv 0) (pa_cons (pv 1) pa_nil))) (pe_g G_bad_cells (hr.mono (by omega)) (pa_cons (pv 4) (pa_cons (pv 1) pa_nil))) (nomark _)))))))))), ?_⟩
  obtain ⟨ds, d, ha, hR, hq⟩ := h
  cases hR with
  | mk s wd st hs hw ho hl h2l M =>
  obtain ⟨v1, v2, v3, rfl, h1, h2, h3⟩ := ha.c3
  have n2 := hs.n2
  have fl : (st.hid.filter fun l => !decide (l = lastOf s)).length ≤ st.hid.length := List.length_filter_le _ _
  refine sq_asg (K := K) (d := .int (lastOf s)) (ed_sub (ed_is (ed_len (ed_ix (ed_var rfl h1) ed_int rfl)) (by rw [List.length_map])) ed_int) fun x1 H1 e1 k1 => ?_
  cases k1
  have h1 := h1.ex e1
  have h2 := h2.ex e1
  have h3 := h3.ex e1
  refine sq_par (K := K) (d1 := eSky (fewer s)) (d2 := eL (st.hid.filter fun l => !decide (l = lastOf s))) (ed_cat (ds := [.int s.wide, .int s.high]) (es := [.tuple ((fewer s).lights.map eLight)]) (ed_is (ed_sl (ed_var rfl h1) eo_none (eo_some (K := K) ed_int)) rfl) (ed_tup (ea_cons (ed_is (ed_sl (ed_ix (ed_var rfl h1) ed_int rfl) eo_none (eo_some (K := K) (ed_neg ed_int))) (congrArg PyData.tuple (cutD_last.trans List.map_dropLast.symm))) ea_nil))) (ed_tuple (el_mapF (enc := .int) (fun l => !decide (l = lastOf s)) .int (ed_ix (ed_var rfl h3) ed_int rfl) (fun _ => rfl) (fun l hl v H2 t kv => eb_val (K := K) (ed_neI (ed_var rfl kv) (ed_var rfl (.int (lastOf s))))) (fun l hl _ v H2 t kv => ed_var rfl kv) (by omega))) fun x2 x3 H2 e2 k2 k3 => ?_
  have h1 := h1.ex e2
  have h2 := h2.ex e2
  have h3 := h3.ex e2
  refine sq_par (K := K) (d1 := eStt (sttOne s st)) (d2 := eStt (sttOther s st)) (ed_cat (ds := [.int st.m, .int st.e, .int st.n]) (es := [eL (sttOne s st).hid]) (ed_is (ed_sl (ed_var rfl h3) eo_none (eo_some (K := K) ed_int)) rfl) (ed_tup (ea_cons (ed_is (ed_cat (ds := (st.hid.filter fun l => !decide (l = lastOf s)).map .int) (es := [.int (lastOf s)]) (ed_var rfl k3) (ed_tup (ea_cons (ed_var rfl (.int (lastOf s))) ea_nil)) (by rw [List.length_map, List.length_singleton]; omega)) (by show _ = PyData.tuple (((st.hid.filter fun l => !decide (l = lastOf s)) ++ [lastOf s]).map .int); rw [List.map_append]; rfl)) ea_nil))) (ed_cat (ds := [.int st.m, .int st.e, .int st.n]) (es := [eL (sttOther s st).hid]) (ed_is (ed_sl (ed_var rfl h3) eo_none (eo_some (K := K) ed_int)) rfl) (ed_tup (ea_cons (ed_var rfl k3) ea_nil))) fun x4 x5 H3 e3 k4 k5 => ?_
  have h1 := h1.ex e3
  have h2 := h2.ex e3
  have k2 := k2.ex e3
  have fs := fewer_ok hs h2l
  have fw := show_fewer hw
  have o1 := one_ok ho (by omega)
  have o2 := other_ok ho (by omega)
  have l1 : (sttOne s st).hid.length ≤ 1000 := by
    show ((st.hid.filter fun l => !decide (l = lastOf s)) ++ [lastOf s]).length ≤ 1000
    rw [List.length_append, List.length_singleton]; omega
  have l2 : (sttOther s st).hid.length ≤ 1000 := by
    show (st.hid.filter fun l => !decide (l = lastOf s)).length ≤ 1000
    omega
  have ly := lay_shown s wd (sttOne s st)
  have lf := lay_fault s wd (sttOne s st)
  have lb := lay_bad s wd
  have el : (eShown (fewer s) wd (sttOther s st)).length ≤ 6 := by
    unfold eShown
    rw [List.length_map, List.length_range]
    exact fs.n2
  refine sq_no (eb_is (eb_val (K := K) (ed_neD (ed_call (ea_cons (ed_var rfl h1) (ea_cons (ed_var rfl h2) (ea_cons (ed_var rfl k4) ea_nil))) (.mk s wd (sttOne s st) hs hw o1 l1)) (ed_is (ed_cat (es := [.tuple []]) (ed_call (ea_cons (ed_var rfl k2) (ea_cons (ed_var rfl h2) (ea_cons (ed_var rfl k5) ea_nil))) (.mk (fewer s) wd (sttOther s st) fs fw o2 l2)) (ed_tup (ea_cons (ed_tup ea_nil) ea_nil)) (by rw [List.length_singleton]; omega)) (congrArg PyData.tuple M.sh.symm)) ly.sh ly.sh)) (by rw [ly.eqv]; rfl)) fun H4 e4 => ?_
  have h1 := h1.ex e4
  have h2 := h2.ex e4
  have k2 := k2.ex e4
  have k4 := k4.ex e4
  have k5 := k5.ex e4
  exact sd_ret (ed_andB (a := true) (b := true) (ed_is (ed_eqD (ed_call (ea_cons (ed_var rfl h1) (ea_cons (ed_var rfl h2) (ea_cons (ed_var rfl k4) ea_nil))) (.mk s wd (sttOne s st) hs hw o1 l1)) (ed_is (ed_call (ea_cons (ed_var rfl k2) (ea_cons (ed_var rfl h2) (ea_cons (ed_var rfl k5) ea_nil))) (.mk (fewer s) wd (sttOther s st) fs fw o2 l2)) (congrArg eFault M.fa.symm)) lf.sh lf.sh) (congrArg PyData.bool lf.eqv)) fun _ => ed_is (ed_eqD (ed_call (ea_cons (ed_var rfl h1) (ea_cons (ed_var rfl h2) ea_nil)) (.mk s wd hs hw)) (ed_call (ea_cons (ed_var rfl k2) (ea_cons (ed_var rfl h2) ea_nil)) (.mk (fewer s) wd fs fw)) lb.sh lb.sh) (congrArg PyData.bool lb.eqv)) fun v H5 e5 => hq v H5 ((((e1.trans e2).trans e3).trans e4).trans e5)
end Dome
/-! the law -/
namespace Dome
open PySem PySem.Spec PyProof.Rows L2 Evl

/-! ### the two flips -/
theorem unl_one {h : List Int} {l : Int} (hs : h.Pairwise (· < ·)) (hl : l ∈ h) : unl h [l] = h.filter fun x => !decide (x = l) := by
  unfold unl
  have e : ((h ++ [l]).filter fun x => decide (x ∈ h) != decide (x ∈ [l])) = h.filter fun x => !decide (x = l) := by
    rw [List.filter_append]
    have e1 : ([l].filter fun x => decide (x ∈ h) != decide (x ∈ [l])) = [] := by
      rw [List.filter_cons_of_neg (by simp [hl])]
      rfl
    rw [e1, List.append_nil]
    refine List.filter_congr fun x hx => ?_
    simp [hx]
  rw [e]
  exact (isort_uniq (List.Perm.refl _) ((hs.filter _).imp fun h => by omega)).symm
theorem unl_self (l : Int) : unl [l] [l] = [] := by
  rw [unl_one (List.pairwise_singleton _ _) List.mem_cons_self]
  simp
theorem unl_new (l : Int) : unl [] [l] = [l] := by
  unfold unl
  rw [List.nil_append, List.filter_cons_of_pos (by simp)]
  rfl
theorem two_flips {st : Stt} {l : Int} (hs : st.hid.Pairwise (· < ·)) : putOn st (sumsTo [.flip l, .flip l] 2) = st := by
  have e : sumsTo [.flip l, .flip l] 2 = ⟨0, 0, 0, []⟩ := by
    unfold sumsTo
    rw [partL, if_pos (by show (1 : Int) ≤ 2; decide), partL, if_pos (by show (1 : Int) ≤ 2 - 1; decide), partL]
    show (⟨0 + 0 + 0, 0 + 0 + 0, 0 + 0 + 0, unl (unl [] [l]) [l]⟩ : Stt) = _
    rw [unl_new, unl_self]
    rfl
  rw [e]
  obtain ⟨m, e, n, hid⟩ := st
  unfold putOn
  dsimp only
  rw [unl_nil hs]
  simp
theorem one_flip {st : Stt} {l : Int} (hs : st.hid.Pairwise (· < ·)) (hl : l ∈ st.hid) : putOn st (sumsTo [.flip l, .flip l] 1) = ⟨st.m, st.e, st.n, st.hid.filter fun x => !decide (x = l)⟩ := by
  have e : sumsTo [.flip l, .flip l] 1 = ⟨0, 0, 0, [l]⟩ := by
    unfold sumsTo
    rw [partL, if_pos (by show (1 : Int) ≤ 1; decide), partL, if_neg (by show ¬ (1 : Int) ≤ 1 - 1; decide), if_neg (by show ¬ (0 : Int) < 1 - 1; decide), partL]
    show (⟨0 + 0, 0 + 0, 0 + 0, unl [] [l]⟩ : Stt) = _
    rw [unl_new]
    rfl
  rw [e]
  unfold putOn
  dsimp only
  rw [unl_one hs hl]
  simp
/-! ### the law -/
section
variable {K : PySem.W.Frag} {p : Addr} {σ : L2.St} {H : Hp} {te tb tc : TE} {E : XK} {i k : Nat} {s : Sky} {R1 R2 : PyData → Prop}
/-- a pure def of what is drawn -/
theorem em_callP {R : List PyData → PyData → Prop} (h : Em K p te σ H k R1) (hR : ∀ d, R1 d → ∃ d', R [d] d' ∧ R2 d') : Em K p (tCall (spP K R) [] E (tCons te tNil)) σ H k R2 := fun H1 t n pn hn Q q =>
  h H1 t n pn hn _ fun v H2 d g kd rd => by
    obtain ⟨d', r1, r2⟩ := hR d rd
    exact ⟨[d], d', .cons kd .nil, r1, fun v H3 e kv => q v H3 d' (g.ex e) kv r2⟩
theorem em_sky (hv : σ[i]? = some (some (.ref p))) (h : Ed K tb σ H (.int 4)) : Em K p (tCall (sp__law_sky K) [] E (tCons (tVar i) (tCons tb tNil))) σ H 50 P_sky :=
  (em_call hv (ema_cons (em_of h) ema_nil) fun ds hd' => by
    obtain ⟨d1, r, rfl, rfl, rfl⟩ := hd'
    exact ⟨(), rfl, fun d h => h⟩).imp (by omega) fun d h => h
theorem em_show (hv : σ[i]? = some (some (.ref p))) (h : Ed K tb σ H (eSky s)) (h2 : Ed K tc σ H (.int 3)) (hs : s.ok) : Em K p (tCall (sp__law_show K) [] E (tCons (tVar i) (tCons tb (tCons tc tNil)))) σ H 40 (P_show s) :=
  (em_call hv (ema_cons (em_of h) (ema_cons (em_of h2) ema_nil)) fun ds hd' => by
    obtain ⟨d1, r, rfl, rfl, d2, r2, rfl, rfl, rfl⟩ := hd'
    exact ⟨s, ⟨rfl, hs⟩, fun d h => h⟩).imp (by omega) fun d h => h
theorem em_state (hv : σ[i]? = some (some (.ref p))) (h : Ed K tb σ H (eSky s)) (hs : s.ok) : Em K p (tCall (sp__law_state K) [] E (tCons (tVar i) (tCons tb tNil))) σ H 20 (P_state s) :=
  (em_call hv (ema_cons (em_of h) ema_nil) fun ds hd' => by
    obtain ⟨d1, r, rfl, rfl, rfl⟩ := hd'
    exact ⟨s, ⟨rfl, hs⟩, fun d h => h⟩).imp (by omega) fun d h => h
end
theorem set_same {σ : L2.St} {i : Nat} {v : V} (h : σ[i]? = some (some v)) : σ.set i (some v) = σ := by
  obtain ⟨hi, e⟩ := List.getElem?_eq_some_iff.mp h
  rw [← e]
  exact List.set_getElem_self hi
/-- if ..: a name is stored anew -/
theorem sq_ifAsg {K : PySem.W.Frag} {σ : L2.St} {H : Hp} {t : TT} {te : TE} {d : PyData} {D : Ends} {u : TS} {i : Nat} {v0 : V} {b : Bool} (hv : σ[i]? = some (some v0)) (h : Eb t σ H b) (h1 : b = true → ∀ H1, Ex H H1 → Ed K te σ H1 d)
    (c : ∀ v H1, Ex H H1 → (Dt K H1 v d ∨ v = v0) → u D (σ.set i (some v)) H1) : tSeq (tIfS t (tAsg te (gName i)) tNext) u D σ H :=
  sq_ifN h (fun e H1 e1 => sd_asg (h1 e H1 e1) fun v H2 e2 kv => c v H2 (e1.trans e2) (.inl kv)) fun e H1 e1 => by
    have := c v0 H1 e1 (.inr rfl)
    rw [set_same hv] at this
    exact this
def fullLamp (s : Sky) : Lamp := ⟨0, s.wide / 2 - 1, 0, s.high - 1⟩
def whole (s : Sky) (w : Show) : Show := ⟨w.lamps.dropLast ++ [fullLamp s], List.replicate w.lamps.length 0, w.slack⟩
theorem whole_ok {s : Sky} {w : Show} (hs : s.ok) (h : w.ok s) : (whole s w).ok s := by
  have w1 := hs.w1
  have h1 := hs.h1
  have n1 := h.n1
  have n2 := h.n2
  refine ⟨?_, ?_, fun l hl => ?_, ?_, fun o ho => ?_, h.s1, h.s2⟩
  · show 1 ≤ (w.lamps.dropLast ++ [fullLamp s]).length
    rw [List.length_append, List.length_singleton]; omega
  · show (w.lamps.dropLast ++ [fullLamp s]).length ≤ 6
    rw [List.length_append, List.length_singleton, List.length_dropLast]; omega
  · rcases List.mem_append.mp hl with hl | hl
    · exact h.ls l (List.dropLast_subset _ hl)
    · rw [List.mem_singleton.mp hl]
      exact ⟨by show (0 : Int) ≤ 0; omega, by show 0 ≤ s.wide / 2 - 1; omega, by show s.wide / 2 - 1 ≤ s.wide / 2 - 1; omega, by show (0 : Int) ≤ 0; omega, by show 0 ≤ s.high - 1; omega, by show s.high - 1 ≤ s.high - 1; omega⟩
  · show (List.replicate w.lamps.length (0 : Int)).length = (w.lamps.dropLast ++ [fullLamp s]).length
    rw [List.length_replicate, List.length_append, List.length_singleton, List.length_dropLast]; omega
  · rw [(List.mem_replicate.mp ho).2]
    decide
theorem rep_flat (n : Nat) : (List.replicate n [PyData.int 0]).flatten = (List.replicate n (0 : Int)).map .int := by
  induction n with
  | zero => rfl
  | succ n ih => rw [List.replicate_succ, List.replicate_succ, List.flatten_cons, ih]; rfl
def P_scene (s : Sky) (d : PyData) : Prop := ∃ xs : List Item, d = eItemsT xs ∧ okL s 2 xs ∧ plainL xs ∧ xs.length ≤ 3
def sp_law (K : PySem.W.Frag) : Sp := fun vs H Q _ => ∃ (a : Addr) (ns : List Int), vs = [.ref a] ∧ SqL K H a (ns.map V.int) ∧ ∀ H', Q (.bl true) H'
theorem len_law {K : PySem.W.Frag} : ∀ vs H Q E, sp_law K vs H Q E → vs.length = ["_law_script"].length := fun vs H Q E h => by
  obtain ⟨a, ns, rfl, _⟩ := h
  rfl
structure PlainLaw : Prop where
  more : ∀ s wd xs d st, Free s wd xs d st → MoreLaw s wd xs st
  few : ∀ s wd st, s.ok → wd.ok s → st.ok s → 2 ≤ s.lights.length → FewerLaw s wd st
abbrev Gd_law (P : Program) (w : World) (K : PySem.W.Frag) (mg : Str → Option Value) (base : Heap) : Prop := Good P w K mg base 27 "law" ["_law_script"] (sp_law K)
theorem ok_law (PL : PlainLaw) {P : Program} {w : World} {K : PySem.W.Frag} {mg : Str → Option Value} {base : Heap} (T : Txt K mg) (G__law_cell : Gd__law_cell P w K mg base) (G__law_pen : Gd__law_pen P w K mg base) (G__law_sky : Gd__law_sky P w K mg base) (G__law_show : Gd__law_show P w K mg base) (G__law_state : Gd__law_state P w K mg base)
    (G__law_plain : Gd__law_plain P w K mg base) (G__law_items : Gd__law_items P w K mg base) (G__law_draw : Gd__law_draw P w K mg base) (G__law_more_right : Gd__law_more_right P w K mg base) (G__law_fewer_right : Gd__law_fewer_right P w K mg base) (G_led : Gd_led P w K mg base) : Gd_law P w K mg base := by
  refine Good.of T.f_law sc_law (fun _ _ _ _ _ _ us hl => match us, hl with | [_], _ => rfl) len_law fun cdv A outer s H vs Q E hr h => ?_
  refine ⟨_, (pss_cons (ps_for PassesOwn.never rfl (pi_list (pe_op op_cat (pe_lst (pa_cons (pe_g G__law_cell (hr.mono (by omega)) (pa_cons (pv 0) (pa_cons pe_int pa_nil))) pa_nil)) (pe_slice sl_list (pv 0) (po_some pe_int) (po_some pe_int)))) (pg_name (i := 1) sc_law.nd rfl (.inl rfl)) (pss_cons (ps_set (i := 2) sc_law.nd rfl (.inl rfl) (pe_g G__law_pen (hr.mono (by omega)) (pa_cons (pv 1) pa_nil)))
    (pss_one (ps_for PassesOwn.never rfl (pi_range1 rfl (T.b_range) (pa_cons pe_int pa_nil)) (pg_name (i := 3) sc_law.nd rfl (.inl rfl)) (pss_cons (ps_set (i := 4) sc_law.nd rfl (.inl rfl) (pe_g G__law_sky (hr.mono (by omega)) (pa_cons (pv 2) (pa_cons pe_int pa_nil))))
    (pss_cons (ps_par (i := 5) (j := 6) rfl sc_law.nd rfl rfl (by decide) rfl rfl (pa_cons (pe_g G__law_show (hr.mono (by omega)) (pa_cons (pv 2) (pa_cons (pv 4) (pa_cons pe_int pa_nil)))) (pa_cons (pe_g G__law_state (hr.mono (by omega)) (pa_cons (pv 2) (pa_cons (pv 4) pa_nil))) pa_nil)) (by rfl))
    (pss_cons (ps_if (pt_cmpR op_eq (pv 3) pe_int (nomark _)) (pss_one (ps_set (i := 5) sc_law.nd rfl (.inl rfl) (pe_tup (pa_cons (pe_op op_catA (pe_slice sl_tupA (pe_ix (show IxR _ (rIxT K) from ix_tup) (pv 5) pe_int (fun _ _ => rfl)) po_none (po_some (pe_un un_neg pe_int))) (pe_tup (pa_cons (pe_tup (pa_cons pe_int (pa_cons (pe_op op_sub (pe_op op_fdiv (pe_ix (show IxR _ (rIxT K) from ix_tup) (pv 4) pe_int (fun _ _ => rfl)) pe_int) pe_int) (pa_cons pe_int (pa_cons (pe_op op_sub (pe_ix (show IxR _ (rIxT K) from ix_tup) (pv 4) pe_int (fun _ _ => rfl)) pe_int) pa_nil))))) pa_nil))) (pa_cons (pe_op op_repN (pe_tup (pa_cons pe_int pa_nil)) (pe_callB (show CallR _ (.builtin "len") (rLenQ K) from call_len_seq) rfl (T.b_len) (by decide +kernel) (pa_cons (pe_ix (show IxR _ (rIxT K) from ix_tup) (pv 5) pe_int (fun _ _ => rfl)) pa_nil))) (pa_cons (pe_ix (show IxR _ (rIxT K) from ix_tup) (pv 5) pe_int (fun _ _ => rfl)) pa_nil)))))) pss_nil)
    (pss_cons (ps_asg (pe_tup (pa_cons (pe_g G__law_plain (hr.mono (by omega)) (pa_cons (pe_g G__law_items (hr.mono (by omega)) (pa_cons (pv 2) (pa_cons (pv 4) (pa_cons pe_int pa_nil)))) pa_nil)) (pa_cons (pe_g G__law_draw (hr.mono (by omega)) (pa_cons (pv 2) (pa_cons (pe_callB (show CallR _ (.builtin "len") (rLenQ K) from call_len_seq) rfl (T.b_len) (by decide +kernel) (pa_cons (pe_ix (show IxR _ (rIxT K) from ix_tup) (pv 4) pe_int (fun _ _ => rfl)) pa_nil)) pa_nil))) pa_nil))) (show PG _ _ (gTup K 2 (gCons (gName 7) (gCons (gName 8) gNil))) from pg_tup rfl (pgs_cons (pg_name (i := 7) sc_law.nd rfl (.inl rfl)) (pgs_cons (pg_name (i := 8) sc_law.nd rfl (.inr rfl)) pgs_nil))))
    (pss_cons (ps_if (pt_not (pt_val (pe_g G__law_more_right (hr.mono (by omega)) (pa_cons (pv 4) (pa_cons (pv 5) (pa_cons (pv 7) (pa_cons (pv 6) pa_nil))))))) (pss_one (ps_ret pe_bl)) pss_nil)
    (pss_cons (ps_if (PW.pt (pw_and (pt_cmpR op_gt (pe_callB (show CallR _ (.builtin "len") (rLenQ K) from call_len_seq) rfl (T.b_len) (by decide +kernel) (pa_cons (pe_ix (show IxR _ (rIxT K) from ix_tup) (pv 4) pe_int (fun _ _ => rfl)) pa_nil)) pe_int (nomark _)) (pw_and1 (pt_not (pt_val (pe_g G__law_fewer_right (hr.mono (by omega)) (pa_cons (pv 4) (pa_cons (pv 5) (pa_cons (pv 6) pa_nil))))))))) (pss_one (ps_ret pe_bl)) pss_nil)
    (pss_cons (ps_set (i := 9) sc_law.nd rfl (.inl rfl) (pe_tup (pa_cons (pe_tup (pa_cons pe_str (pa_cons (pv 8) pa_nil))) (pa_cons (pe_tup (pa_cons pe_str (pa_cons (pv 8) pa_nil))) pa_nil))))
    (pss_cons (ps_if (pt_cmpR (op_neD hr.units) (pe_g G_led (hr.mono (by omega)) (pa_cons (pv 4) (pa_cons (pv 9) (pa_cons (pv 6) (pa_cons pe_int pa_nil))))) (pv 6) (nomark _)) (pss_one (ps_ret pe_bl)) pss_nil)
    (pss_cons (ps_set (i := 10) sc_law.nd rfl (.inl rfl) (pe_op op_catA (pe_slice sl_tupA (pv 6) po_none (po_some pe_int)) (pe_tup (pa_cons (pe_callTy call_tuple_of rfl (T.b_tuple) (by decide +kernel) (pa_cons (pe_lc rfl sc_law.nd (pi_tup (pe_ix (show IxR _ (rIxT K) from ix_tup) (pv 6) pe_int (fun _ _ => rfl))) (blkOk_by (own := [("_law_one", 11)]) (N := N_law) (sc := defScope s_law) (by decide +kernel)) (fun _ _ _ _ _ => (pg_name (i := 11) sc_law.nd rfl (.inl rfl))) (fun _ _ _ _ _ => pts_one (pt_cmpR op_ne (pv 11) (pv 8) (nomark _))) (fun _ _ _ _ _ => (pv 11))) pa_nil)) pa_nil))))
    (pss_one (ps_if (PW.pt (pw_and (pt_cmpR (show OpR _ _ (rIn K false) from op_in_seq) (pv 8) (pe_ix (show IxR _ (rIxT K) from ix_tup) (pv 6) pe_int (fun _ _ => rfl)) rfl) (pw_and1 (pt_cmpR (op_neD hr.units) (pe_g G_led (hr.mono (by omega)) (pa_cons (pv 4) (pa_cons (pv 9) (pa_cons (pv 6) (pa_cons pe_int pa_nil))))) (pv 10) (nomark _))))) (pss_one (ps_ret pe_bl)) pss_nil)))))))))))))))
    (pss_one (ps_ret pe_bl))), ?_⟩
  obtain ⟨a, ns, rfl, hS, hq⟩ := h
  -- the list of cells
  refine ⟨_, rfl, a, ns, rfl, hS, fun c0 H1 e1 => ?_⟩
  refine ⟨sz_of (Nat.le_of_ble_eq_true rfl), fun l1 hl1 => ?_⟩
  have e2 : Ex H1 (upd H1 l1 (.lst [.int c0])) := Ex.new hl1
  refine ⟨_, rfl, 1, rfl, 4, rfl, a, ns.map V.int, rfl, ex_l (e1.trans e2) hS, fun l2 hl2 => ?_⟩
  have e3 : Ex (upd H1 l1 (.lst [.int c0])) (upd (upd H1 l1 (.lst [.int c0])) l2 (.lst (cutV (ns.map V.int) (some 1) (some 4)))) := Ex.new hl2
  have cl : (cutV (ns.map V.int) (some 1) (some 4)).length ≤ 4 := by
    unfold cutV
    rw [List.length_take, List.length_drop]
    have a1 : HT.sIx (ns.map V.int).length 0 (some 1) = min 1 (ns.map V.int).length := HT.sIx_nat _ 0 1
    have a2 : HT.sIx (ns.map V.int).length (ns.map V.int).length (some 4) = min 4 (ns.map V.int).length := HT.sIx_nat _ _ 4
    rw [a1, a2]
    omega
  refine ⟨l1, l2, [.int c0], _, rfl, rfl, e3 _ _ upd_same, upd_same, sz_of (by rw [List.length_singleton]; omega), fun l3 hl3 => ?_⟩
  have hints : ∀ x ∈ ([V.int c0] ++ cutV (ns.map V.int) (some 1) (some 4)), ∃ j : Int, x = .int j := fun x hx => by
    rcases List.mem_append.mp hx with hx | hx
    · exact ⟨c0, List.mem_singleton.mp hx⟩
    · unfold cutV at hx
      have := List.mem_of_mem_drop (List.mem_of_mem_take hx)
      obtain ⟨j, _, e⟩ := List.mem_map.mp this
      exact ⟨j, e.symm⟩
  revert hints
  generalize [V.int c0] ++ cutV (ns.map V.int) (some 1) (some 4) = cells
  intro hints
  refine ⟨l3, rfl, ⟨cells, sq_of upd_same⟩, ?_⟩
  generalize hH0 : upd (upd (upd H1 l1 (.lst [.int c0])) l2 (.lst (cutV (ns.map V.int) (some 1) (some 4)))) l3 (.lst cells) = H0
  have hl30 : H0 l3 = some (.lst cells) := by rw [← hH0]; exact upd_same
  clear hH0 e3 e2 hl1 hl2 hl3 cl
  refine for_it (walk_list (K := K) (a := l3) (xs := cells)) (fun i σ' H' => (∃ c1 c2 c3 c4 c5 c6 c7 c8 c9 c10 c11 : Option V, σ' = [some (.ref a), c1, c2, c3, c4, c5, c6, c7, c8, c9, c10, c11]) ∧ Ex H0 H') ⟨⟨none, none, none, none, none, none, none, none, none, none, none, rfl⟩, Ex.refl _⟩ (fun i σ' H' _ pv => sq_of (pv.2 _ _ hl30)) (fun i x σ' Ha Hb hi pv y => ?_) fun σ' H' pv => ?_
  · obtain ⟨rfl, hx⟩ := y
    obtain ⟨⟨c1, c2, c3, c4, c5, c6, c7, c8, c9, c10, c11, rfl⟩, eH⟩ := pv
    obtain ⟨cell, rfl⟩ := hints x (List.mem_of_getElem? hx)
    refine sq_asgL (K := K) (el_call (ea_cons (ed_var rfl (.int cell)) ea_nil) (.mk cell)) fun q ys H2 hq0 e4 hy ky => ?_
    obtain ⟨u1, u2, u3, rfl, ku1, ku2, ku3⟩ := ky.c3
    cases ku1; cases ku2; cases ku3
    have pn : Pen H2 q 0 := ⟨_, _, _, hy, by split <;> omega, Int.emod_nonneg _ (by decide), Int.emod_lt_of_pos _ (by decide), Int.le_refl 0, Int.le_refl 0⟩
    refine sd_forR (K := K) (n := 2) (ea_cons ed_int ea_nil) (by decide) fun H3 e5 => ⟨fun l σ'' H'' => (∃ c3 c4 c5 c6 c7 c8 c9 c10 c11 : Option V, σ'' = [some (.ref a), some (.int cell), some (.ref q), c3, c4, c5, c6, c7, c8, c9, c10, c11]) ∧ Go q H3 H'' (l * 2000), ⟨⟨_, _, _, _, _, _, _, _, _, rfl⟩, (Go.of (Ex.refl _) (pn.ex e5)).mono (by omega)⟩, fun l σ'' H'' hlap pv => ?_, fun σ'' H'' pv => ?_⟩
    · obtain ⟨⟨c3, c4, c5, c6, c7, c8, c9, c10, c11, rfl⟩, g0⟩ := pv
      have lim : l * 2000 + 2000 ≤ LIM := by
        have : l * 2000 + 2000 ≤ 4000 := by omega
        exact Nat.le_trans this (by decide)
      refine sq_asgM (p := q) (k := 50) (em_sky rfl ed_int) g0.pn (by omega) fun v4 H4 d4 g4 k4 r4 => ?_
      obtain ⟨s, rfl, hs, hs4⟩ := r4
      have n1 := hs.n1
      have n2 := hs.n2
      have g04 := g0.trans g4
      refine sq_parM (K := K) (p := q) (k1 := 40) (k2 := 20) (em_show rfl (ed_var rfl k4) ed_int hs) (em_state rfl (ed_var rfl k4) hs) g04.pn (by omega) fun v5 v6 H5 d5 d6 g5 k5 k6 r5 r6 => ?_
      obtain ⟨w0, rfl, hw0⟩ := r5
      obtain ⟨st, rfl, hst, st1, st2, st3⟩ := r6
      have k4 := k4.at g5.xT
      have g05 := g04.trans g5
      have nl : (s.lights.map eLight).length = s.lights.length := List.length_map _
      have wn1 := hw0.n1
      have wn2 := hw0.n2
      refine sq_ifAsg (K := K) (d := eShow (whole s w0)) (i := 5) rfl (eb_val (K := K) (ed_eqI (ed_var rfl (.int (l : Int))) ed_int)) (fun _ H6 e6 => ed_tup (ea_cons (ed_is (x := .tuple ((w0.lamps.dropLast ++ [fullLamp s]).map eLamp)) (ed_cat (ds := (w0.lamps.map eLamp).dropLast) (es := [eLamp (fullLamp s)]) (ed_is (ed_sl (ed_ix (ed_var rfl (k5.ex e6)) ed_int rfl) eo_none (eo_some (K := K) (ed_neg ed_int))) (congrArg PyData.tuple cutD_last)) (ed_tup (ea_cons (ed_tup (ea_cons ed_int (ea_cons (ed_sub (ed_fdiv (ed_ix (ed_var rfl (k4.ex e6)) ed_int rfl) ed_int ⟨by decide, by decide⟩) ed_int) (ea_cons ed_int (ea_cons (ed_sub (ed_ix (ed_var rfl (k4.ex e6)) ed_int rfl) ed_int) ea_nil))))) ea_nil)) (by rw [List.length_dropLast, List.length_map, List.length_singleton]; omega)) (congrArg PyData.tuple (by rw [List.map_append, List.map_dropLast]; rfl))) (ea_cons (ed_is (x := eL (List.replicate w0.lamps.length 0)) (ed_rep (n := (w0.lamps.length : Int)) (ed_tup (ea_cons ed_int ea_nil)) (ed_is (ed_len (ed_ix (ed_var rfl (k5.ex e6)) ed_int rfl)) (by rw [List.length_map])) (by omega) (by omega) (by simp) (Nat.le_of_ble_eq_true rfl)) (congrArg PyData.tuple (by rw [Int.toNat_natCast]; exact rep_flat _))) (ea_cons (ed_ix (ed_var rfl (k5.ex e6)) ed_int rfl) ea_nil)))) fun v5' H6 e6 h5' => ?_
      have k4 := k4.ex e6
      have k6 := k6.ex e6
      obtain ⟨wd, k5', hwd⟩ : ∃ wd, Dt K H6 v5' (eShow wd) ∧ wd.ok s := by
        rcases h5' with h | rfl
        · exact ⟨_, h, whole_ok hs hw0⟩
        · exact ⟨w0, k5.ex e6, hw0⟩
      clear h5'
      have g06 := g05.ex e6
      refine sq_un2M (K := K) (p := q) (k := 1280) (R := fun d1 d2 => P_scene s d1 ∧ IntIn 0 ((s.lights.length : Int) - 1) d2) (Em.imp (k := (1 + 3 * Bud 3) + (1 + 0)) (em_tup (ema_cons (em_callP (R2 := P_scene s) (em_items (d := 2) rfl (ed_var rfl k4) (ed_is ed_int rfl) hs (by decide) (by decide)) ?_) (ema_cons (em_draw (m := (s.lights.length : Int)) rfl (ed_is (ed_len (ed_ix (ed_var rfl k4) ed_int rfl)) (congrArg (fun n : Nat => PyData.int (n : Int)) nl)) (by omega) (by omega)) ema_nil)) ?_) (by decide) ?_) g06.pn (by omega) fun v7 v8 H7 d7 d8 g7 k7 k8 r78 => ?_
      · rintro d ⟨xs, rfl, okx, lx⟩
        obtain ⟨p1, p2, p3⟩ := plL_ok s xs 2 okx
        exact ⟨_, .mk s xs 2 okx (by omega) (by decide), plL xs, rfl, p1, p2, by omega⟩
      · rintro ds ⟨d, r, rfl, _, d', r', rfl, _, rfl⟩
        exact Nat.le_of_ble_eq_true rfl
      · rintro d ⟨ds, rfl, d1, r, rfl, r1, d2, r', rfl, r2, rfl⟩
        exact ⟨d1, d2, rfl, r1, r2⟩
      obtain ⟨⟨xs, rfl, okx, plx, lx⟩, lt, rfl, lt1, lt2⟩ := r78
      cases k8
      have k4 := k4.at g7.xT
      have k5' := k5'.at g7.xT
      have k6 := k6.at g7.xT
      have g07 := g06.trans g7
      have F : Free s wd xs 2 st := ⟨hs, hwd, hst, by omega, okx, plx, lx, by decide, by omega, by omega⟩
      refine sq_no (eb_not (a := true) (eb_val (K := K) (ed_call (ea_cons (ed_var rfl k4) (ea_cons (ed_var rfl k5') (ea_cons (ed_var rfl k7) (ea_cons (ed_var rfl k6) ea_nil)))) (.mk s wd xs 2 st F (by omega) (PL.more s wd xs 2 st F))))) fun H8 e8 => ?_
      have k4 := k4.ex e8
      have k5' := k5'.ex e8
      have k6 := k6.ex e8
      refine sq_no (eb_is (eb_and (a := decide (1 < s.lights.length)) (b := false) (eb_is (eb_val (K := K) (ed_gt (ed_is (ed_len (ed_ix (ed_var rfl k4) ed_int rfl)) (congrArg (fun n : Nat => PyData.int (n : Int)) nl)) ed_int)) ?_) fun c => eb_not (a := true) (eb_val (K := K) (ed_call (ea_cons (ed_var rfl k4) (ea_cons (ed_var rfl k5') (ea_cons (ed_var rfl k6) ea_nil))) (.mk s wd st hs hwd hst (by omega) (of_decide_eq_true c) (PL.few s wd st hs hwd hst (of_decide_eq_true c)))))) (Bool.and_false _)) fun H9 e9 => ?_
      · by_cases h : 1 < s.lights.length
        · rw [decide_eq_true h, decide_eq_true (by omega)]
        · rw [decide_eq_false h, decide_eq_false (by omega)]
      have k4 := k4.ex e9
      have k6 := k6.ex e9
      have fit : Fit s [.flip lt, .flip lt] 0 := by
        have of := okI_flip s 0 (l := lt) ⟨lt1, by omega⟩
        refine ⟨okL_of fun x hx => ?_, fun x hx => ?_, Nat.le_of_ble_eq_true rfl, by decide⟩
        · rcases List.mem_cons.mp hx with rfl | hx
          · exact of
          · rw [List.mem_singleton.mp hx]; exact of
        · rcases List.mem_cons.mp hx with rfl | hx
          · exact .inr ⟨lt, rfl⟩
          · exact .inr ⟨lt, List.mem_singleton.mp hx⟩
      have sz2 : sizeL [.flip lt, .flip lt] = 2 := rfl
      refine sq_asg (K := K) (d := eItemsT [.flip lt, .flip lt]) (ed_tup (ea_cons (ed_tup (ea_cons ed_str (ea_cons (ed_var rfl (.int lt)) ea_nil))) (ea_cons (ed_tup (ea_cons ed_str (ea_cons (ed_var rfl (.int lt)) ea_nil))) ea_nil))) fun v9 H10 e10 k9 => ?_
      have k4 := k4.ex e10
      have k6 := k6.ex e10
      have ls := lay_stt st
      refine sq_no (eb_is (eb_val (K := K) (ed_neD (ed_is (ed_call (ea_cons (ed_var rfl k4) (ea_cons (ed_var rfl k9) (ea_cons (ed_var rfl k6) (ea_cons ed_int ea_nil)))) (.mk s [.flip lt, .flip lt] 0 st 2 hs fit hst (by omega) (by decide) (by rw [sz2]; decide))) (congrArg eStt (two_flips hst.rise))) (ed_var rfl k6) ls.sh ls.sh)) (by rw [ls.eqv]; rfl)) fun H11 e11 => ?_
      have k4 := k4.ex e11
      have k6 := k6.ex e11
      have k9 := k9.ex e11
      have fl : (st.hid.filter fun x => !decide (x = lt)).length ≤ st.hid.length := List.length_filter_le _ _
      refine sq_asg (K := K) (d := eStt ⟨st.m, st.e, st.n, st.hid.filter fun x => !decide (x = lt)⟩) (ed_cat (ds := [.int st.m, .int st.e, .int st.n]) (es := [eL (st.hid.filter fun x => !decide (x = lt))]) (ed_is (ed_sl (ed_var rfl k6) eo_none (eo_some (K := K) ed_int)) rfl) (ed_tup (ea_cons (ed_tuple (el_mapF (enc := .int) (fun x => !decide (x = lt)) .int (ed_ix (ed_var rfl k6) ed_int rfl) (fun _ => rfl) (fun x hx v H12 t kv => eb_val (K := K) (ed_neI (ed_var rfl kv) (ed_var rfl (.int lt)))) (fun x hx _ v H12 t kv => ed_var rfl kv) (by omega))) ea_nil))) fun v10 H12 e12 k10 => ?_
      have k4 := k4.ex e12
      have k6 := k6.ex e12
      have k9 := k9.ex e12
      have ls2 := lay_stt ⟨st.m, st.e, st.n, st.hid.filter fun x => !decide (x = lt)⟩
      refine sd_no (eb_is (eb_and (a := decide (lt ∈ st.hid)) (b := false) (eb_val (K := K) (ed_in (ed_var rfl (.int lt)) (ed_ix (ed_var rfl k6) ed_int rfl))) fun c => eb_is (eb_val (K := K) (ed_neD (ed_is (ed_call (ea_cons (ed_var rfl k4) (ea_cons (ed_var rfl k9) (ea_cons (ed_var rfl k6) (ea_cons ed_int ea_nil)))) (.mk s [.flip lt, .flip lt] 0 st 1 hs fit hst (by omega) (by decide) (by rw [sz2]; decide))) (congrArg eStt (one_flip hst.rise (of_decide_eq_true c)))) (ed_var rfl k10) ls2.sh ls2.sh)) (by rw [ls2.eqv]; rfl)) (Bool.and_false _)) fun H13 e13 => ?_
      refine ⟨⟨_, _, _, _, _, _, _, _, _, rfl⟩, (g07.ex (((((e8.trans e9).trans e10).trans e11).trans e12).trans e13)).mono ?_⟩
      rw [Nat.succ_mul]
      omega
    · obtain ⟨⟨c3, c4, c5, c6, c7, c8, c9, c10, c11, rfl⟩, g0⟩ := pv
      refine ⟨⟨_, _, _, _, _, _, _, _, _, _, _, rfl⟩, fun b o hb => ?_⟩
      have h2 := eH b o hb
      have nb : b ≠ q := fun z => by
        subst z
        rw [hq0] at h2
        cases h2
      exact g0.xB b o nb ((e4.trans e5) b o h2)
  · show tRet (tC (.bl true)) { nx := fun _ H' => Q .non H', rt := Q } σ' H'
    refine sd_ret (K := K) (ed_bl (i := true)) fun v H2 e4 kv => ?_
    cases kv
    exact hq H2
end Dome
/-! the plain law: over plain data only -/
namespace Dome
open PySem

/-! ### what is hidden -/
theorem word_sub {s : Sky} {w : Show} {m e n : Int} {hid hid' : List Int} (h : ∀ x ∈ hid, x ∈ hid') {k : Nat} {l : Light} {x : Str} (hx : wordAt s w ⟨m, e, n, hid'⟩ k l = some x) : wordAt s w ⟨m, e, n, hid⟩ k l = some x := by
  unfold wordAt cellOf at hx ⊢
  dsimp only at hx ⊢
  by_cases c : (k : Int) ∈ hid'
  · rw [if_pos c] at hx
    cases hx
  · rw [if_neg c] at hx
    rw [if_neg fun z => c (h _ z)]
    exact hx
theorem fault_sub {s : Sky} {w : Show} {m e n : Int} {hid hid' : List Int} (h : ∀ x ∈ hid, x ∈ hid') : ∀ (ls : List Light) (i : Nat), (faultFrom s w ⟨m, e, n, hid'⟩ i ls).isSome = true → (faultFrom s w ⟨m, e, n, hid⟩ i ls).isSome = true
  | [], _, q => q
  | l :: ls, i, q => by
    rw [faultFrom] at q ⊢
    cases e' : wordAt s w ⟨m, e, n, hid'⟩ i l with
    | some x =>
      rw [word_sub h e']
      rfl
    | none =>
      rw [e'] at q
      cases e0 : wordAt s w ⟨m, e, n, hid⟩ i l with
      | some x => rfl
      | none => exact fault_sub h ls (i + 1) q
theorem has_sub {s : Sky} {w : Show} {m e n : Int} {hid hid' : List Int} (h : ∀ x ∈ hid, x ∈ hid') (q : hasFault s w ⟨m, e, n, hid'⟩ = true) : hasFault s w ⟨m, e, n, hid⟩ = true := fault_sub h s.lights 0 q
theorem fault_all {s : Sky} {w : Show} {m e n : Int} {hid : List Int} : ∀ (ls : List Light) (i : Nat), (∀ k : Nat, i ≤ k → k < i + ls.length → (k : Int) ∈ hid) → faultFrom s w ⟨m, e, n, hid⟩ i ls = none
  | [], _, _ => by rw [faultFrom]
  | l :: ls, i, h => by
    have c : (i : Int) ∈ hid := h i (Nat.le_refl _) (by rw [List.length_cons]; omega)
    have e0 : wordAt s w ⟨m, e, n, hid⟩ i l = none := by
      unfold wordAt cellOf
      dsimp only
      rw [if_pos c]
    rw [faultFrom, e0]
    exact fault_all ls (i + 1) fun k h1 h2 => h k (by omega) (by rw [List.length_cons]; omega)
theorem allHid_mem {s : Sky} {k : Nat} (h : k < s.lights.length) : (k : Int) ∈ allHid s := List.mem_map.mpr ⟨k, List.mem_range.mpr h, rfl⟩
theorem fault_allHid (s : Sky) (w : Show) (m e n : Int) : faultBy s w ⟨m, e, n, allHid s⟩ = none := fault_all s.lights 0 fun k _ h => allHid_mem (by omega)

/-! ### bounds of what is found -/
def Bd (lo hi : Int) (r : Option Int × Memo) : Prop := ∀ b, r.1 = some b → lo ≤ b ∧ b ≤ hi
theorem keyed_bd {lo hi : Int} {key : List Int} {f : Memo → Option Int × Memo} {mm : Memo} (h : Bd lo hi (f mm)) : Bd lo hi (keyed key f mm) := by
  intro b hb
  unfold keyed at hb
  split at hb
  · cases hb
  · split at hb
    · rename_i b' mm' q
      cases hb
      exact h b (by rw [q])
    · cases hb
theorem turnLoop_bd {f : Int → Memo → Option Int × Memo} {size : Int} (h : ∀ k mm, Bd 1 size (f k mm)) : ∀ (n : Nat) (k : Int) (mm : Memo) (b : Int), (turnLoop f size n k mm).1 = some b → ∃ (j : Int) (b0 : Int), k ≤ j ∧ j < k + (n : Int) ∧ 1 ≤ b0 ∧ b0 ≤ size ∧ b = j * size + b0
  | 0, k, mm, b, hb => by
    rw [turnLoop] at hb
    cases hb
  | n + 1, k, mm, b, hb => by
    rw [turnLoop] at hb
    split at hb
    · rename_i b' mm' q
      cases hb
      obtain ⟨h1, h2⟩ := h k mm b' (by rw [q])
      exact ⟨k, b', Int.le_refl _, by omega, h1, h2, rfl⟩
    · obtain ⟨j, b0, h1, h2, h3⟩ := turnLoop_bd h n (k + 1) _ b hb
      exact ⟨j, b0, by omega, by omega, h3⟩
theorem mul_le {j t a : Int} (h1 : j + 1 ≤ t) (h0 : 0 ≤ a) : j * a + a ≤ t * a := by
  have := Int.mul_le_mul_of_nonneg_right h1 h0
  rw [Int.add_mul, Int.one_mul] at this
  exact this
mutual
theorem findI_bd (c : Cfg) (s : Sky) : ∀ (x : Item) (d : Nat) (path : List Int) (m e n : Int) (mm : Memo), okI s d x → Bd 1 (sizeI x) (findI c x path m e n mm)
  | .go a b c', d, path, m, e, n, mm, ok => by
    intro b0 hb
    rw [findI] at hb
    split at hb
    · cases hb
      exact ⟨Int.le_refl 1, Int.le_refl 1⟩
    · cases hb
  | .flip l, d, path, m, e, n, mm, ok => by
    intro b0 hb
    rw [findI] at hb
    cases hb
  | .mark, d, path, m, e, n, mm, ok => by
    intro b0 hb
    rw [findI] at hb
    cases hb
  | .again t ys, 0, path, m, e, n, mm, ok => by unfold okI at ok; exact ok.elim
  | .again t ys, d + 1, path, m, e, n, mm, ok => by
    unfold okI at ok
    obtain ⟨g1, g2, g3, g4⟩ := ok
    intro b0 hb
    rw [findI] at hb
    split at hb
    · cases hb
    · obtain ⟨a1, a2⟩ := near_cnt (s := c.sky) (t := t) (xs := ys) (north := n) (most := turnsOf c.sky) g1
      obtain ⟨j, b1, h1, h2, h3, h4, rfl⟩ := turnLoop_bd (fun k mm => keyed_bd (by
        have := findL_bd c s ys d 0 0 path (m + (sums ys).m * k) (e + (sums ys).e * k) (n + (sums ys).n * k) mm g4
        rw [Int.zero_add, Int.zero_add] at this
        exact this)) _ _ _ _ hb
      have sz := (sizeL_bd s ys d g4).1
      have j0 : 0 ≤ j * sizeL ys := Int.mul_nonneg (by omega) sz
      have j1 := mul_le (j := j) (t := t) (a := sizeL ys) (by omega) sz
      have e0 : sizeI (.again t ys) = t * sizeL ys := rfl
      rw [e0]
      omega
theorem findL_bd (c : Cfg) (s : Sky) : ∀ (xs : List Item) (d k : Nat) (gone : Int) (path : List Int) (m e n : Int) (mm : Memo), okL s d xs → Bd (gone + 1) (gone + sizeL xs) (findL c xs k gone path m e n mm)
  | [], d, k, gone, path, m, e, n, mm, ok => by
    intro b0 hb
    rw [findL] at hb
    cases hb
  | x :: r, d, k, gone, path, m, e, n, mm, ok => by
    unfold okL at ok
    have h1 := findI_bd c s x d (path ++ [(k : Int)]) m e n mm ok.1
    have s1 := sizeI_bd s x d ok.1
    have s2 := sizeL_bd s r d ok.2
    intro b0 hb
    rw [findL] at hb
    have e0 : sizeL (x :: r) = sizeI x + sizeL r := rfl
    rw [e0]
    split at hb
    · rename_i b mm' q
      cases hb
      have := h1 b (by rw [q])
      omega
    · have := findL_bd c s r d (k + 1) (gone + sizeI x) path (m + (sumI x).m) (e + (sumI x).e) (n + (sumI x).n) _ ok.2 b0 hb
      omega
end

/-! ### two searches side by side -/
def Lk (r r' : Option Int × Memo) : Prop := (r.1 = none → r' = r) ∧ ∀ b b', r.1 = some b → r'.1 = some b' → b ≤ b'
theorem Lk.same {r r' : Option Int × Memo} (h : r' = r) : Lk r r' := ⟨fun _ => h, fun b b' h1 h2 => by
  rw [h, h1] at h2
  cases h2
  exact Int.le_refl _⟩
theorem keyed_lk {key : List Int} {f f' : Memo → Option Int × Memo} {mm : Memo} (h : Lk (f mm) (f' mm)) : Lk (keyed key f mm) (keyed key f' mm) := by
  unfold keyed
  split
  · exact Lk.same rfl
  · obtain ⟨h1, h2⟩ := h
    generalize f mm = r at h1 h2
    generalize f' mm = r' at h1 h2
    obtain ⟨o, m1⟩ := r
    obtain ⟨o', m2⟩ := r'
    cases o with
    | none =>
      have := h1 rfl
      cases this
      exact Lk.same rfl
    | some b =>
      refine ⟨(fun z => nomatch z), fun b1 b2 e1 e2 => ?_⟩
      cases e1
      cases o' with
      | none => cases e2
      | some b' =>
        cases e2
        exact h2 _ _ rfl rfl
theorem turnLoop_lk {f f' : Int → Memo → Option Int × Memo} {size : Int} (h : ∀ k mm, Lk (f k mm) (f' k mm)) (hb : ∀ k mm, Bd 1 size (f k mm)) (hb' : ∀ k mm, Bd 1 size (f' k mm)) (hs : 0 ≤ size) : ∀ (n : Nat) (k : Int) (mm : Memo), Lk (turnLoop f size n k mm) (turnLoop f' size n k mm)
  | 0, k, mm => by
    rw [turnLoop, turnLoop]
    exact Lk.same rfl
  | n + 1, k, mm => by
    obtain ⟨h1, h2⟩ := h k mm
    have b1 := hb k mm
    rw [turnLoop, turnLoop]
    generalize f k mm = r at h1 h2 b1
    generalize f' k mm = r' at h1 h2
    obtain ⟨o, m1⟩ := r
    obtain ⟨o', m2⟩ := r'
    cases o with
    | none =>
      have := h1 rfl
      cases this
      exact turnLoop_lk h hb hb' hs n (k + 1) m1
    | some b =>
      refine ⟨(fun z => nomatch z), fun x x' e1 e2 => ?_⟩
      cases e1
      cases o' with
      | some b' =>
        cases e2
        have := h2 b b' rfl rfl
        omega
      | none =>
        obtain ⟨j, b0, j1, j2, j3, j4, rfl⟩ := turnLoop_bd hb' n (k + 1) m2 x' e2
        have := (b1 b rfl).2
        have := mul_le (j := k) (t := j) (a := size) (by omega) hs
        omega
mutual
theorem findI_lk (c c' : Cfg) (hc : c'.sky = c.sky) (ht : ∀ m e n, c'.tst m e n = true → c.tst m e n = true) (s : Sky) : ∀ (x : Item) (d : Nat) (path : List Int) (m e n : Int) (mm : Memo), okI s d x → Lk (findI c x path m e n mm) (findI c' x path m e n mm)
  | .go a b c1, d, path, m, e, n, mm, ok => by
    rw [findI, findI]
    by_cases h : c.tst (m + a) (e + b) (n + c1) = true
    · rw [if_pos h]
      refine ⟨(fun z => nomatch z), fun x x' e1 e2 => ?_⟩
      cases e1
      split at e2
      · cases e2; exact Int.le_refl _
      · cases e2
    · rw [if_neg h, if_neg fun z => h (ht _ _ _ z)]
      exact Lk.same rfl
  | .flip l, d, path, m, e, n, mm, ok => by
    rw [findI, findI]
    exact Lk.same rfl
  | .mark, d, path, m, e, n, mm, ok => by
    rw [findI, findI]
    exact Lk.same rfl
  | .again t ys, 0, path, m, e, n, mm, ok => by unfold okI at ok; exact ok.elim
  | .again t ys, d + 1, path, m, e, n, mm, ok => by
    unfold okI at ok
    obtain ⟨g1, g2, g3, g4⟩ := ok
    rw [findI, findI]
    by_cases h : sizeL ys = 0
    · rw [if_pos h, if_pos h]
      exact Lk.same rfl
    · rw [if_neg h, if_neg h, hc]
      have ek : ∀ path m e n, c'.key path m e n = c.key path m e n := fun path m e n => by unfold Cfg.key; rw [hc]
      simp only [ek]
      have bd : ∀ (c : Cfg) (k : Int) (mm : Memo), Bd 1 (sizeL ys) (keyed (c.key path (m + (sums ys).m * k) (e + (sums ys).e * k) (n + (sums ys).n * k)) (findL c ys 0 0 path (m + (sums ys).m * k) (e + (sums ys).e * k) (n + (sums ys).n * k)) mm) := fun c k mm => keyed_bd (by
        have := findL_bd c s ys d 0 0 path (m + (sums ys).m * k) (e + (sums ys).e * k) (n + (sums ys).n * k) mm g4
        rw [Int.zero_add, Int.zero_add] at this
        exact this)
      have bd' : ∀ (k : Int) (mm : Memo), Bd 1 (sizeL ys) (keyed (c.key path (m + (sums ys).m * k) (e + (sums ys).e * k) (n + (sums ys).n * k)) (findL c' ys 0 0 path (m + (sums ys).m * k) (e + (sums ys).e * k) (n + (sums ys).n * k)) mm) := fun k mm => by
        have := bd c' k mm
        rw [ek] at this
        exact this
      exact turnLoop_lk (fun k mm => keyed_lk (findL_lk c c' hc ht s ys d 0 0 path _ _ _ mm g4)) (bd c) bd' (sizeL_bd s ys d g4).1 _ _ _
theorem findL_lk (c c' : Cfg) (hc : c'.sky = c.sky) (ht : ∀ m e n, c'.tst m e n = true → c.tst m e n = true) (s : Sky) : ∀ (xs : List Item) (d k : Nat) (gone : Int) (path : List Int) (m e n : Int) (mm : Memo), okL s d xs → Lk (findL c xs k gone path m e n mm) (findL c' xs k gone path m e n mm)
  | [], d, k, gone, path, m, e, n, mm, ok => by
    rw [findL, findL]
    exact Lk.same rfl
  | x :: r, d, k, gone, path, m, e, n, mm, ok => by
    unfold okL at ok
    obtain ⟨h1, h2⟩ := findI_lk c c' hc ht s x d (path ++ [(k : Int)]) m e n mm ok.1
    have b1 := findI_bd c s x d (path ++ [(k : Int)]) m e n mm ok.1
    rw [findL, findL]
    generalize findI c x (path ++ [(k : Int)]) m e n mm = r1 at h1 h2 b1
    generalize findI c' x (path ++ [(k : Int)]) m e n mm = r2 at h1 h2
    obtain ⟨o, m1⟩ := r1
    obtain ⟨o', m2⟩ := r2
    cases o with
    | none =>
      have := h1 rfl
      cases this
      exact findL_lk c c' hc ht s r d (k + 1) (gone + sizeI x) path _ _ _ m1 ok.2
    | some b =>
      refine ⟨(fun z => nomatch z), fun y y' e1 e2 => ?_⟩
      cases e1
      cases o' with
      | some b' =>
        cases e2
        have := h2 b b' rfl rfl
        omega
      | none =>
        have := findL_bd c' s r d (k + 1) (gone + sizeI x) path (m + (sumI x).m) (e + (sumI x).e) (n + (sumI x).n) m2 ok.2 y' e2
        have := b1 b rfl
        omega
end
theorem findIn_bd {c : Cfg} {s : Sky} {xs : List Item} {d : Nat} {path : List Int} {m e n : Int} {mm : Memo} (ok : okL s d xs) : Bd 1 (sizeL xs) (findIn c xs path m e n mm) := by
  have := findL_bd c s xs d 0 0 path m e n mm ok
  rw [Int.zero_add, Int.zero_add] at this
  exact keyed_bd this
theorem firstWhere_eq (s : Sky) (wd : Show) (xs : List Item) (st : Stt) : firstWhere s wd xs st = if hasFault s wd st then some 0 else (findIn (cfg s wd st.hid) xs [] st.m st.e st.n []).1 := rfl
theorem look_le {s : Sky} {wd : Show} {xs : List Item} {d : Nat} {m e n : Int} {hid hid' : List Int} (ok : okL s d xs) (h : ∀ x ∈ hid, x ∈ hid') : lookBeat s wd xs ⟨m, e, n, hid⟩ ≤ lookBeat s wd xs ⟨m, e, n, hid'⟩ := by
  have sz := (sizeL_bd s xs d ok).1
  have b1 : Bd 1 (sizeL xs) (findIn (cfg s wd hid) xs [] m e n []) := findIn_bd ok
  have b2 : Bd 1 (sizeL xs) (findIn (cfg s wd hid') xs [] m e n []) := findIn_bd ok
  have lk : Lk (findIn (cfg s wd hid) xs [] m e n []) (findIn (cfg s wd hid') xs [] m e n []) := by
    unfold findIn
    exact keyed_lk (findL_lk (cfg s wd hid) (cfg s wd hid') rfl (fun m e n q => has_sub h q) s xs d 0 0 [] m e n [] ok)
  unfold lookBeat
  rw [firstWhere_eq, firstWhere_eq]
  dsimp only
  by_cases h1 : hasFault s wd ⟨m, e, n, hid⟩ = true
  · rw [if_pos h1]
    dsimp only
    by_cases h2 : hasFault s wd ⟨m, e, n, hid'⟩ = true
    · rw [if_pos h2]
      exact Int.le_refl 0
    · rw [if_neg h2]
      cases q : (findIn (cfg s wd hid') xs [] m e n []).1 with
      | none => dsimp only; omega
      | some b =>
        have := b2 b q
        dsimp only
        omega
  · rw [if_neg h1, if_neg fun z => h1 (has_sub h z)]
    cases q : (findIn (cfg s wd hid) xs [] m e n []).1 with
    | none =>
      rw [lk.1 q, q]
      exact Int.le_refl _
    | some b =>
      cases q' : (findIn (cfg s wd hid') xs [] m e n []).1 with
      | none =>
        have := b1 b q
        dsimp only
        omega
      | some b' => exact lk.2 b b' q q'
end Dome
/-! the plain law: what is found is a fault; all hidden; a sky without its last light -/
namespace Dome
open PySem

/-! ### one number of a state -/
structure Lin (π : Stt → Int) : Prop where
  put : ∀ a b, π (putOn a b) = π a + π b
  oft : ∀ a t, π (often a t) = π a * t
  zer : π zero = 0
theorem lin_m : Lin Stt.m := ⟨fun _ _ => rfl, fun _ _ => rfl, rfl⟩
theorem lin_e : Lin Stt.e := ⟨fun _ _ => rfl, fun _ _ => rfl, rfl⟩
theorem lin_n : Lin Stt.n := ⟨fun _ _ => rfl, fun _ _ => rfl, rfl⟩
section
variable {π : Stt → Int}
theorem sumL_lin (L : Lin π) : ∀ (xs : List Item) (f : Stt), π (sumL f xs) = π f + π (sums xs)
  | [], f => by
    unfold sums
    rw [sumL, sumL, L.zer]
    omega
  | x :: r, f => by
    have h1 := sumL_lin L r (putOn f (sumI x))
    have h2 := sumL_lin L r (putOn zero (sumI x))
    unfold sums
    rw [sumL, sumL, h1, h2, L.put, L.put, L.zer]
    omega
theorem sums_cons (L : Lin π) (x : Item) (r : List Item) : π (sums (x :: r)) = π (sumI x) + π (sums r) := by
  have h := sumL_lin L r (putOn zero (sumI x))
  rw [L.put, L.zer] at h
  unfold sums at h ⊢
  rw [sumL, h]
  omega
mutual
theorem sumI_none (L : Lin π) (s : Sky) : ∀ (x : Item) (d : Nat), okI s d x → plainI x → sizeI x = 0 → π (sumI x) = 0
  | .go _ _ _, d, _, _, h => by
    have : (1 : Int) = 0 := h
    omega
  | .flip _, d, _, h, _ => by unfold plainI at h; exact h.elim
  | .mark, d, _, _, _ => L.zer
  | .again t xs, 0, h, _, _ => by unfold okI at h; exact h.elim
  | .again t xs, d + 1, ok, hp, h => by
    unfold okI at ok
    obtain ⟨h1, h2, h3, h4⟩ := ok
    unfold plainI at hp
    have h' : t * sizeL xs = 0 := h
    have e : π (sumI (.again t xs)) = π (sums xs) * t := L.oft _ _
    rw [e]
    rcases Int.mul_eq_zero.mp h' with rfl | hz
    · exact Int.mul_zero _
    · rw [sumL_none L s xs d h4 hp hz, Int.zero_mul]
theorem sumL_none (L : Lin π) (s : Sky) : ∀ (xs : List Item) (d : Nat), okL s d xs → plainL xs → sizeL xs = 0 → π (sums xs) = 0
  | [], d, _, _, _ => L.zer
  | x :: r, d, ok, hp, h => by
    unfold okL at ok
    unfold plainL at hp
    have h' : sizeI x + sizeL r = 0 := h
    have s1 := (sizeI_bd s x d ok.1).1
    have s2 := (sizeL_bd s r d ok.2).1
    rw [sums_cons L, sumI_none L s x d ok.1 hp.1 (by omega), sumL_none L s r d ok.2 hp.2 (by omega)]
    rfl
end
/-- no beats -/
theorem partL_none (L : Lin π) (s : Sky) : ∀ (xs : List Item) (d : Nat) (f : Stt), okL s d xs → plainL xs → π (partL xs 0 f) = π f
  | [], d, f, _, _ => by rw [partL]
  | x :: r, d, f, ok, hp => by
    unfold okL at ok
    unfold plainL at hp
    have s1 := (sizeI_bd s x d ok.1).1
    rw [partL]
    split
    · rename_i h
      have e : sizeI x = 0 := by omega
      rw [e, Int.sub_zero, partL_none L s r d _ ok.2 hp.2, L.put, sumI_none L s x d ok.1 hp.1 e]
      omega
    · rw [if_neg (by omega)]
      exact partL_none L s r d f ok.2 hp.2
/-- all beats -/
theorem partL_full (s : Sky) : ∀ (xs : List Item) (d : Nat) (f : Stt), okL s d xs → partL xs (sizeL xs) f = sumL f xs
  | [], d, f, _ => by rw [partL, sumL]
  | x :: r, d, f, ok => by
    unfold okL at ok
    have s2 := (sizeL_bd s r d ok.2).1
    have e : sizeL (x :: r) = sizeI x + sizeL r := rfl
    rw [partL, e, if_pos (by omega), sumL, show sizeI x + sizeL r - sizeI x = sizeL r by omega]
    exact partL_full s r d _ ok.2
theorem partI_lin (L : Lin π) (x : Item) (b : Int) (f : Stt) : π (partI x b f) = π f + π (partI x b zero) := by
  cases x with
  | go _ _ _ =>
    rw [partI, partI, L.zer]
    · omega
    all_goals exact fun _ _ h => nomatch h
  | flip _ =>
    rw [partI, partI, L.zer]
    · omega
    all_goals exact fun _ _ h => nomatch h
  | mark =>
    rw [partI, partI, L.zer]
    · omega
    all_goals exact fun _ _ h => nomatch h
  | again t xs =>
    rw [partI, partI, L.put, L.put, L.put, L.put, L.zer]
    omega
theorem partL_lin (L : Lin π) : ∀ (xs : List Item) (b : Int) (f : Stt), π (partL xs b f) = π f + π (partL xs b zero)
  | [], b, f => by rw [partL, partL, L.zer]; omega
  | x :: r, b, f => by
    rw [partL, partL]
    by_cases h : sizeI x ≤ b
    · rw [if_pos h, if_pos h, partL_lin L r _ (putOn f (sumI x)), partL_lin L r _ (putOn zero (sumI x)), L.put, L.put, L.zer]
      omega
    · rw [if_neg h, if_neg h]
      by_cases h2 : 0 < b
      · rw [if_pos h2, if_pos h2]
        exact partI_lin L x b f
      · rw [if_neg h2, if_neg h2]
        exact partL_lin L r b f
end
/-- what b beats of an item do, 0 < b -/
def upto (x : Item) (b : Int) : Stt := partL [x] b zero
section
variable {π : Stt → Int}
theorem upto_eq (x : Item) (b : Int) : upto x b = if sizeI x ≤ b then putOn zero (sumI x) else if 0 < b then partI x b zero else zero := by
  unfold upto
  rw [partL, partL, partL]
/-- within the first item -/
theorem part_in (L : Lin π) (s : Sky) {x : Item} {r : List Item} {d : Nat} {b : Int} (ok : okL s d r) (hp : plainL r) (h0 : 0 < b) (h1 : b ≤ sizeI x) : π (partL (x :: r) b zero) = π (upto x b) := by
  rw [upto_eq, partL]
  by_cases h : sizeI x ≤ b
  · have e : b - sizeI x = 0 := by omega
    rw [if_pos h, if_pos h, e]
    exact partL_none L s r d _ ok hp
  · rw [if_neg h, if_neg h, if_pos h0, if_pos h0]
/-- behind the first item -/
theorem part_out (L : Lin π) {x : Item} {r : List Item} {b : Int} (h : 0 ≤ b) : π (partL (x :: r) (sizeI x + b) zero) = π (sumI x) + π (partL r b zero) := by
  rw [partL, if_pos (by omega), show sizeI x + b - sizeI x = b by omega, partL_lin L, L.put, L.zer]
  omega
/-- turn k of an again -/
theorem upto_turn (L : Lin π) (s : Sky) {t : Int} {ys : List Item} {d : Nat} {k b : Int} (ok : okL s d ys) (hp : plainL ys) (k0 : 0 ≤ k) (kt : k < t) (b1 : 1 ≤ b) (b2 : b ≤ sizeL ys) : π (upto (.again t ys) (k * sizeL ys + b)) = π (sums ys) * k + π (sumsTo ys b) := by
  have sz : 1 ≤ sizeL ys := by omega
  have e0 : sizeI (.again t ys) = t * sizeL ys := rfl
  have k1 : 0 ≤ k * sizeL ys := Int.mul_nonneg k0 (by omega)
  rw [upto_eq, e0]
  have full : π (sumsTo ys (sizeL ys)) = π (sums ys) := by
    unfold sumsTo
    rw [partL_full s ys d zero ok]
    rfl
  by_cases hb : b = sizeL ys
  · subst hb
    have ek : k * sizeL ys + sizeL ys = (k + 1) * sizeL ys := by rw [Int.add_mul, Int.one_mul]
    rw [ek, full]
    by_cases h : t * sizeL ys ≤ (k + 1) * sizeL ys
    · rw [if_pos h]
      have et : t = k + 1 := by
        rcases Int.lt_or_le (k + 1) t with h' | h'
        · have := mul_le (j := k + 1) (t := t) (a := sizeL ys) (by omega) (by omega)
          omega
        · omega
      rw [L.put, L.zer]
      have e1 : π (sumI (.again t ys)) = π (sums ys) * t := L.oft _ _
      rw [e1, et, Int.mul_add, Int.mul_one]
      omega
    · rw [if_neg h, if_pos (by rw [Int.add_mul, Int.one_mul]; omega), partI]
      have q1 : (k + 1) * sizeL ys / sizeL ys = k + 1 := Int.mul_ediv_cancel _ (by omega)
      have q2 : (k + 1) * sizeL ys % sizeL ys = 0 := Int.mul_emod_left _ _
      rw [q1, q2, L.put, L.put, L.zer, L.oft, partL_none L s ys d zero ok hp, L.zer, Int.mul_add, Int.mul_one]
      omega
  · have hlt : b < sizeL ys := by omega
    have h : ¬ t * sizeL ys ≤ k * sizeL ys + b := by
      have := mul_le (j := k) (t := t) (a := sizeL ys) (by omega) (by omega)
      omega
    rw [if_neg h, if_pos (by omega), partI]
    have q1 : (k * sizeL ys + b) / sizeL ys = k := by
      rw [Int.add_comm, Int.add_mul_ediv_right _ _ (by omega), Int.ediv_eq_zero_of_lt (by omega) hlt]
      omega
    have q2 : (k * sizeL ys + b) % sizeL ys = b := by
      rw [Int.add_comm, Int.add_mul_emod_self_right, Int.emod_eq_of_lt (by omega) hlt]
    rw [q1, q2, L.put, L.put, L.zer, L.oft]
    unfold sumsTo
    omega
end

/-! ### what is found is a fault -/
theorem turnLoop_some {f : Int → Memo → Option Int × Memo} {size : Int} : ∀ (n : Nat) (k : Int) (mm : Memo) (b : Int), (turnLoop f size n k mm).1 = some b → ∃ (j : Int) (mm' : Memo) (b0 : Int), k ≤ j ∧ j < k + (n : Int) ∧ (f j mm').1 = some b0 ∧ b = j * size + b0
  | 0, k, mm, b, hb => by
    rw [turnLoop] at hb
    cases hb
  | n + 1, k, mm, b, hb => by
    rw [turnLoop] at hb
    split at hb
    · rename_i b' mm' q
      cases hb
      exact ⟨k, mm, b', Int.le_refl _, by omega, by rw [q], rfl⟩
    · obtain ⟨j, m1, b0, h1, h2, h3⟩ := turnLoop_some n (k + 1) _ b hb
      exact ⟨j, m1, b0, by omega, by omega, h3⟩
theorem keyed_some {key : List Int} {f : Memo → Option Int × Memo} {mm : Memo} {b : Int} (h : (keyed key f mm).1 = some b) : (f mm).1 = some b := by
  unfold keyed at h
  split at h
  · cases h
  · split at h
    · rename_i b' mm' q
      rw [q]
      exact h
    · cases h
mutual
theorem findI_sound (c : Cfg) (s : Sky) : ∀ (x : Item) (d : Nat) (path : List Int) (m e n : Int) (mm : Memo) (b : Int), okI s d x → plainI x → (findI c x path m e n mm).1 = some b → c.tst (m + (upto x b).m) (e + (upto x b).e) (n + (upto x b).n) = true
  | .go a1 a2 a3, d, path, m, e, n, mm, b, ok, hp, hb => by
    rw [findI] at hb
    split at hb
    · rename_i h
      cases hb
      rw [upto_eq, if_pos (show sizeI (.go a1 a2 a3) ≤ 1 from Int.le_refl 1)]
      show c.tst (m + (0 + a1)) (e + (0 + a2)) (n + (0 + a3)) = true
      rw [Int.zero_add, Int.zero_add, Int.zero_add]
      exact h
    · cases hb
  | .flip l, d, path, m, e, n, mm, b, ok, hp, hb => by
    rw [findI] at hb
    cases hb
  | .mark, d, path, m, e, n, mm, b, ok, hp, hb => by
    rw [findI] at hb
    cases hb
  | .again t ys, 0, path, m, e, n, mm, b, ok, hp, hb => by unfold okI at ok; exact ok.elim
  | .again t ys, d + 1, path, m, e, n, mm, b, ok, hp, hb => by
    unfold okI at ok
    obtain ⟨g1, g2, g3, g4⟩ := ok
    unfold plainI at hp
    rw [findI] at hb
    split at hb
    · cases hb
    · obtain ⟨a1, a2⟩ := near_cnt (s := c.sky) (t := t) (xs := ys) (north := n) (most := turnsOf c.sky) g1
      obtain ⟨j, mm', b0, h1, h2, h3, rfl⟩ := turnLoop_some _ _ _ _ hb
      have h4 := keyed_some h3
      have bd := findL_bd c s ys d 0 0 path _ _ _ mm' g4 b0 h4
      rw [Int.zero_add, Int.zero_add] at bd
      have := findL_sound c s ys d 0 0 path _ _ _ mm' b0 g4 hp h4
      rw [Int.sub_zero] at this
      rw [upto_turn lin_m s g4 hp (by omega) (by omega) bd.1 bd.2, upto_turn lin_e s g4 hp (by omega) (by omega) bd.1 bd.2, upto_turn lin_n s g4 hp (by omega) (by omega) bd.1 bd.2, ← Int.add_assoc, ← Int.add_assoc, ← Int.add_assoc]
      exact this
theorem findL_sound (c : Cfg) (s : Sky) : ∀ (xs : List Item) (d k : Nat) (gone : Int) (path : List Int) (m e n : Int) (mm : Memo) (b : Int), okL s d xs → plainL xs → (findL c xs k gone path m e n mm).1 = some b → c.tst (m + (sumsTo xs (b - gone)).m) (e + (sumsTo xs (b - gone)).e) (n + (sumsTo xs (b - gone)).n) = true
  | [], d, k, gone, path, m, e, n, mm, b, ok, hp, hb => by
    rw [findL] at hb
    cases hb
  | x :: r, d, k, gone, path, m, e, n, mm, b, ok, hp, hb => by
    unfold okL at ok
    unfold plainL at hp
    rw [findL] at hb
    split at hb
    · rename_i b' mm' q
      cases hb
      have bd := findI_bd c s x d (path ++ [(k : Int)]) m e n mm ok.1 b' (by rw [q])
      have := findI_sound c s x d (path ++ [(k : Int)]) m e n mm b' ok.1 hp.1 (by rw [q])
      rw [show gone + b' - gone = b' by omega]
      unfold sumsTo
      rw [part_in lin_m s ok.2 hp.2 (by omega) bd.2, part_in lin_e s ok.2 hp.2 (by omega) bd.2, part_in lin_n s ok.2 hp.2 (by omega) bd.2]
      exact this
    · rename_i mm' q
      have bd := findL_bd c s r d (k + 1) (gone + sizeI x) path (m + (sumI x).m) (e + (sumI x).e) (n + (sumI x).n) mm' ok.2 b hb
      have := findL_sound c s r d (k + 1) (gone + sizeI x) path (m + (sumI x).m) (e + (sumI x).e) (n + (sumI x).n) mm' b ok.2 hp.2 hb
      have eb : b - gone = sizeI x + (b - (gone + sizeI x)) := by omega
      unfold sumsTo at this ⊢
      rw [eb, part_out lin_m (by omega), part_out lin_e (by omega), part_out lin_n (by omega), ← Int.add_assoc, ← Int.add_assoc, ← Int.add_assoc]
      exact this
end
theorem sumsTo_hid {xs : List Item} (hp : plainL xs) (b : Int) : (sumsTo xs b).hid = [] := by
  have := partL_hid xs b zero 0 fun x hx => plainL_mem hp x hx
  have z : zero.hid.length = 0 := rfl
  exact List.eq_nil_of_length_eq_zero (by unfold sumsTo; omega)
theorem look_ok {s : Sky} {wd : Show} {xs : List Item} {d : Nat} {m e n : Int} {hid : List Int} (ok : okL s d xs) (hp : plainL xs) (hr : hid.Pairwise (· < ·)) : lookOk s wd xs ⟨m, e, n, hid⟩ := by
  intro b hb
  have sz := (sizeL_bd s xs d ok).1
  have ep : ∀ b, putOn ⟨m, e, n, hid⟩ (sumsTo xs b) = ⟨m + (sumsTo xs b).m, e + (sumsTo xs b).e, n + (sumsTo xs b).n, hid⟩ := fun b => putOn_plain hr (sumsTo_hid hp b)
  rw [ep]
  rw [firstWhere_eq] at hb
  by_cases h : hasFault s wd ⟨m, e, n, hid⟩ = true
  · rw [if_pos h] at hb
    cases hb
    refine ⟨Int.le_refl 0, sz, ?_⟩
    unfold sumsTo
    rw [partL_none lin_m s xs d zero ok hp, partL_none lin_e s xs d zero ok hp, partL_none lin_n s xs d zero ok hp]
    show hasFault s wd ⟨m + 0, e + 0, n + 0, hid⟩ = true
    rw [Int.add_zero, Int.add_zero, Int.add_zero]
    exact h
  · rw [if_neg h] at hb
    dsimp only at hb
    have bd := findIn_bd ok b hb
    have := findL_sound (cfg s wd hid) s xs d 0 0 [] m e n [] b ok hp (keyed_some hb)
    rw [Int.sub_zero] at this
    exact ⟨by omega, bd.2, this⟩

/-! ### all hidden -/
theorem none_all {s : Sky} {wd : Show} {xs : List Item} {d : Nat} {m e n : Int} (ok : okL s d xs) (hp : plainL xs) : firstWhere s wd xs ⟨m, e, n, allHid s⟩ = none := by
  have no : ∀ m e n, hasFault s wd ⟨m, e, n, allHid s⟩ = false := fun m e n => by
    unfold hasFault
    rw [fault_allHid]
    rfl
  rw [firstWhere_eq, no]
  rw [if_neg Bool.false_ne_true]
  dsimp only
  cases q : (findIn (cfg s wd (allHid s)) xs [] m e n []).1 with
  | none => rfl
  | some b =>
    have := findL_sound (cfg s wd (allHid s)) s xs d 0 0 [] m e n [] b ok hp (keyed_some q)
    have n2 := no (m + (sumsTo xs (b - 0)).m) (e + (sumsTo xs (b - 0)).e) (n + (sumsTo xs (b - 0)).n)
    have this : hasFault s wd ⟨m + (sumsTo xs (b - 0)).m, e + (sumsTo xs (b - 0)).e, n + (sumsTo xs (b - 0)).n, allHid s⟩ = true := this
    rw [n2] at this
    cases this
theorem shown_all (s : Sky) (wd : Show) (m e n : Int) : eShown s wd ⟨m, e, n, allHid s⟩ = List.replicate s.lights.length (.tuple []) := by
  unfold eShown
  refine List.eq_replicate_iff.mpr ⟨by rw [List.length_map, List.length_range], fun b hb => ?_⟩
  obtain ⟨k, hk, rfl⟩ := List.mem_map.mp hb
  have hk := List.mem_range.mp hk
  have e0 : cellAt s ⟨m, e, n, allHid s⟩ k = none := by
    unfold cellAt
    rw [List.getElem?_eq_getElem hk]
    dsimp only
    unfold cellOf
    rw [if_pos (allHid_mem hk)]
  rw [e0]
  rfl
theorem more_law (s : Sky) (wd : Show) (xs : List Item) (d : Nat) (st : Stt) (F : Free s wd xs d st) : MoreLaw s wd xs st :=
  ⟨fun hid' h => look_ok F.ok F.pl h.rise, fun k _ => look_le F.ok fun x hx => addS_mem.mpr (.inl hx), none_all F.ok F.pl, fault_allHid s wd _ _ _, shown_all s wd _ _ _⟩

/-! ### a sky without its last light -/
theorem cell_few {s : Sky} {st : Stt} {k : Nat} {l : Light} (h : (k : Int) ≠ lastOf s) : cellOf s (sttOne s st) k l = cellOf (fewer s) (sttOther s st) k l := by
  unfold cellOf
  by_cases c : (k : Int) ∈ (sttOther s st).hid
  · have c2 : (k : Int) ∈ (sttOne s st).hid := List.mem_append.mpr (.inl c)
    rw [if_pos c, if_pos c2]
  · have c2 : ¬ (k : Int) ∈ (sttOne s st).hid := fun z => by
      rcases List.mem_append.mp z with z | z
      · exact c z
      · exact h (List.mem_singleton.mp z)
    rw [if_neg c, if_neg c2]
    rfl
theorem cell_last {s : Sky} {st : Stt} {k : Nat} {l : Light} (h : (k : Int) = lastOf s) : cellOf s (sttOne s st) k l = none := by
  have c : (k : Int) ∈ (sttOne s st).hid := List.mem_append.mpr (.inr (List.mem_singleton.mpr h))
  unfold cellOf
  rw [if_pos c]
theorem fault_few {s : Sky} {wd : Show} {st : Stt} {z : Light} : ∀ (ls : List Light) (i : Nat), ((i + ls.length : Nat) : Int) = lastOf s → faultFrom s wd (sttOne s st) i (ls ++ [z]) = faultFrom (fewer s) wd (sttOther s st) i ls
  | [], i, h => by
    rw [List.nil_append, faultFrom, faultFrom, faultFrom]
    unfold wordAt
    rw [cell_last (by simpa using h)]
  | l :: ls, i, h => by
    rw [List.length_cons] at h
    have ne : (i : Int) ≠ lastOf s := by omega
    have e0 : wordAt s wd (sttOne s st) i l = wordAt (fewer s) wd (sttOther s st) i l := by
      unfold wordAt
      rw [cell_few ne]
    rw [List.cons_append, faultFrom, faultFrom, e0, fault_few ls (i + 1) (by omega)]
theorem few_law (s : Sky) (wd : Show) (st : Stt) (hs : s.ok) (hw : wd.ok s) (ho : st.ok s) (h2 : 2 ≤ s.lights.length) : FewerLaw s wd st := by
  have ne : s.lights ≠ [] := fun z => by rw [z] at h2; exact absurd h2 (by decide)
  have ld : s.lights.dropLast.length = s.lights.length - 1 := List.length_dropLast
  refine ⟨?_, ?_⟩
  · unfold eShown
    have e1 : s.lights.length = (fewer s).lights.length + 1 := by
      show s.lights.length = s.lights.dropLast.length + 1
      omega
    rw [e1, List.range_succ, List.map_append]
    congr 1
    · refine List.map_congr_left fun k hk => ?_
      have hk := List.mem_range.mp hk
      have hk2 : k < s.lights.dropLast.length := hk
      have ek : s.lights[k]? = some s.lights.dropLast[k] := by
        rw [List.getElem_dropLast]
        exact List.getElem?_eq_getElem (by omega)
      have ek2 : (fewer s).lights[k]? = some s.lights.dropLast[k] := List.getElem?_eq_getElem hk2
      unfold cellAt
      rw [ek, ek2]
      dsimp only
      rw [cell_few (by unfold lastOf; omega)]
    · have hk : (fewer s).lights.length < s.lights.length := by omega
      have e0 : cellAt s (sttOne s st) (fewer s).lights.length = none := by
        unfold cellAt
        rw [List.getElem?_eq_getElem hk]
        dsimp only
        exact cell_last (by unfold lastOf; omega)
      rw [List.map_singleton, e0]
      rfl
  · have e1 : s.lights = s.lights.dropLast ++ [s.lights.getLast ne] := (List.dropLast_concat_getLast ne).symm
    unfold faultBy
    have := fault_few (s := s) (wd := wd) (st := st) (z := s.lights.getLast ne) s.lights.dropLast 0 (by unfold lastOf; omega)
    rw [← e1] at this
    exact this
theorem plain_law : PlainLaw := ⟨more_law, few_law⟩
end Dome
namespace Dome
open PySem PySem.Spec PyProof.Rows L2 Evl
theorem txt_of {w : World} {K : PySem.W.Frag} {h h' : Heap} {mg : Str → Option Value} (X : K.In h) (G : h.Ns mainGlobals mg) (c : He.SaysX DomeHead.fa DomeHead.fn [] [] DomeHead.more w h' K) : Txt K mg where
  f_is_whole := by
    obtain ⟨fd, F⟩ := c.t.d.def_ 0 (d := DomeHead.d_is_whole) rfl
    exact ⟨fd, F, He.glo_ok X G (c.t.d.fact 0 (f := .glo "is_whole") rfl)⟩
  f_is_among := by
    obtain ⟨fd, F⟩ := c.t.d.def_ 1 (d := DomeHead.d_is_among) rfl
    exact ⟨fd, F, He.glo_ok X G (c.t.d.fact 1 (f := .glo "is_among") rfl)⟩
  f_is_row := by
    obtain ⟨fd, F⟩ := c.t.d.def_ 2 (d := DomeHead.d_is_row) rfl
    exact ⟨fd, F, He.glo_ok X G (c.t.d.fact 2 (f := .glo "is_row") rfl)⟩
  f_is_light_of := by
    obtain ⟨fd, F⟩ := c.t.d.def_ 3 (d := DomeHead.d_is_light_of) rfl
    exact ⟨fd, F, He.glo_ok X G (c.t.d.fact 3 (f := .glo "is_light_of") rfl)⟩
  f_is_sky := by
    obtain ⟨fd, F⟩ := c.t.d.def_ 4 (d := DomeHead.d_is_sky) rfl
    exact ⟨fd, F, He.glo_ok X G (c.t.d.fact 4 (f := .glo "is_sky") rfl)⟩
  f_need_sky := by
    obtain ⟨fd, F⟩ := c.t.d.def_ 5 (d := DomeHead.d_need_sky) rfl
    exact ⟨fd, F, He.glo_ok X G (c.t.d.fact 5 (f := .glo "need_sky") rfl)⟩
  f_stands_by := by
    obtain ⟨fd, F⟩ := c.t.d.def_ 6 (d := DomeHead.d_stands_by) rfl
    exact ⟨fd, F, He.glo_ok X G (c.t.d.fact 6 (f := .glo "stands_by") rfl)⟩
  f_is_back := by
    obtain ⟨fd, F⟩ := c.t.d.def_ 7 (d := DomeHead.d_is_back) rfl
    exact ⟨fd, F, He.glo_ok X G (c.t.d.fact 7 (f := .glo "is_back") rfl)⟩
  f_round_of := by
    obtain ⟨fd, F⟩ := c.t.d.def_ 8 (d := DomeHead.d_round_of) rfl
    exact ⟨fd, F, He.glo_ok X G (c.t.d.fact 8 (f := .glo "round_of") rfl)⟩
  f_half_of := by
    obtain ⟨fd, F⟩ := c.t.d.def_ 9 (d := DomeHead.d_half_of) rfl
    exact ⟨fd, F, He.glo_ok X G (c.t.d.fact 9 (f := .glo "half_of") rfl)⟩
  f_is_cell := by
    obtain ⟨fd, F⟩ := c.t.d.def_ 10 (d := DomeHead.d_is_cell) rfl
    exact ⟨fd, F, He.glo_ok X G (c.t.d.fact 10 (f := .glo "is_cell") rfl)⟩
  f_up_by := by
    obtain ⟨fd, F⟩ := c.t.d.def_ 11 (d := DomeHead.d_up_by) rfl
    exact ⟨fd, F, He.glo_ok X G (c.t.d.fact 11 (f := .glo "up_by") rfl)⟩
  f_is_lamp := by
    obtain ⟨fd, F⟩ := c.t.d.def_ 12 (d := DomeHead.d_is_lamp) rfl
    exact ⟨fd, F, He.glo_ok X G (c.t.d.fact 12 (f := .glo "is_lamp") rfl)⟩
  f_are_lamps := by
    obtain ⟨fd, F⟩ := c.t.d.def_ 13 (d := DomeHead.d_are_lamps) rfl
    exact ⟨fd, F, He.glo_ok X G (c.t.d.fact 13 (f := .glo "are_lamps") rfl)⟩
  f_cells_of := by
    obtain ⟨fd, F⟩ := c.t.d.def_ 14 (d := DomeHead.d_cells_of) rfl
    exact ⟨fd, F, He.glo_ok X G (c.t.d.fact 14 (f := .glo "cells_of") rfl)⟩
  f_covers := by
    obtain ⟨fd, F⟩ := c.t.d.def_ 15 (d := DomeHead.d_covers) rfl
    exact ⟨fd, F, He.glo_ok X G (c.t.d.fact 15 (f := .glo "covers") rfl)⟩
  f_covering_by := by
    obtain ⟨fd, F⟩ := c.t.d.def_ 16 (d := DomeHead.d_covering_by) rfl
    exact ⟨fd, F, He.glo_ok X G (c.t.d.fact 16 (f := .glo "covering_by") rfl)⟩
  f_is_item := by
    obtain ⟨fd, F⟩ := c.t.d.def_ 17 (d := DomeHead.d_is_item) rfl
    exact ⟨fd, F, He.glo_ok X G (c.t.d.fact 17 (f := .glo "is_item") rfl)⟩
  f_are_items := by
    obtain ⟨fd, F⟩ := c.t.d.def_ 18 (d := DomeHead.d_are_items) rfl
    exact ⟨fd, F, He.glo_ok X G (c.t.d.fact 18 (f := .glo "are_items") rfl)⟩
  f_size_of := by
    obtain ⟨fd, F⟩ := c.t.d.def_ 19 (d := DomeHead.d_size_of) rfl
    exact ⟨fd, F, He.glo_ok X G (c.t.d.fact 19 (f := .glo "size_of") rfl)⟩
  f_is_scene_by := by
    obtain ⟨fd, F⟩ := c.t.d.def_ 20 (d := DomeHead.d_is_scene_by) rfl
    exact ⟨fd, F, He.glo_ok X G (c.t.d.fact 20 (f := .glo "is_scene_by") rfl)⟩
  f_need_scene := by
    obtain ⟨fd, F⟩ := c.t.d.def_ 21 (d := DomeHead.d_need_scene) rfl
    exact ⟨fd, F, He.glo_ok X G (c.t.d.fact 21 (f := .glo "need_scene") rfl)⟩
  f_need_both := by
    obtain ⟨fd, F⟩ := c.t.d.def_ 22 (d := DomeHead.d_need_both) rfl
    exact ⟨fd, F, He.glo_ok X G (c.t.d.fact 22 (f := .glo "need_both") rfl)⟩
  f_beats_of := by
    obtain ⟨fd, F⟩ := c.t.d.def_ 23 (d := DomeHead.d_beats_of) rfl
    exact ⟨fd, F, He.glo_ok X G (c.t.d.fact 23 (f := .glo "beats_of") rfl)⟩
  f_is_state := by
    obtain ⟨fd, F⟩ := c.t.d.def_ 24 (d := DomeHead.d_is_state) rfl
    exact ⟨fd, F, He.glo_ok X G (c.t.d.fact 24 (f := .glo "is_state") rfl)⟩
  f_need_state := by
    obtain ⟨fd, F⟩ := c.t.d.def_ 25 (d := DomeHead.d_need_state) rfl
    exact ⟨fd, F, He.glo_ok X G (c.t.d.fact 25 (f := .glo "need_state") rfl)⟩
  f_unlike := by
    obtain ⟨fd, F⟩ := c.t.d.def_ 26 (d := DomeHead.d_unlike) rfl
    exact ⟨fd, F, He.glo_ok X G (c.t.d.fact 26 (f := .glo "unlike") rfl)⟩
  f_put_on := by
    obtain ⟨fd, F⟩ := c.t.d.def_ 27 (d := DomeHead.d_put_on) rfl
    exact ⟨fd, F, He.glo_ok X G (c.t.d.fact 27 (f := .glo "put_on") rfl)⟩
  f_often := by
    obtain ⟨fd, F⟩ := c.t.d.def_ 28 (d := DomeHead.d_often) rfl
    exact ⟨fd, F, He.glo_ok X G (c.t.d.fact 28 (f := .glo "often") rfl)⟩
  f_sums_in := by
    obtain ⟨fd, F⟩ := c.t.d.def_ 29 (d := DomeHead.d_sums_in) rfl
    exact ⟨fd, F, He.glo_ok X G (c.t.d.fact 29 (f := .glo "sums_in") rfl)⟩
  f_sums_of := by
    obtain ⟨fd, F⟩ := c.t.d.def_ 30 (d := DomeHead.d_sums_of) rfl
    exact ⟨fd, F, He.glo_ok X G (c.t.d.fact 30 (f := .glo "sums_of") rfl)⟩
  f_sums_to := by
    obtain ⟨fd, F⟩ := c.t.d.def_ 31 (d := DomeHead.d_sums_to) rfl
    exact ⟨fd, F, He.glo_ok X G (c.t.d.fact 31 (f := .glo "sums_to") rfl)⟩
  f_led_by := by
    obtain ⟨fd, F⟩ := c.t.d.def_ 32 (d := DomeHead.d_led_by) rfl
    exact ⟨fd, F, He.glo_ok X G (c.t.d.fact 32 (f := .glo "led_by") rfl)⟩
  f_need_led := by
    obtain ⟨fd, F⟩ := c.t.d.def_ 33 (d := DomeHead.d_need_led) rfl
    exact ⟨fd, F, He.glo_ok X G (c.t.d.fact 33 (f := .glo "need_led") rfl)⟩
  f_led := by
    obtain ⟨fd, F⟩ := c.t.d.def_ 34 (d := DomeHead.d_led) rfl
    exact ⟨fd, F, He.glo_ok X G (c.t.d.fact 34 (f := .glo "led") rfl)⟩
  f_reach := by
    obtain ⟨fd, F⟩ := c.t.d.def_ 35 (d := DomeHead.d_reach) rfl
    exact ⟨fd, F, He.glo_ok X G (c.t.d.fact 35 (f := .glo "reach") rfl)⟩
  f_common := by
    obtain ⟨fd, F⟩ := c.t.d.def_ 36 (d := DomeHead.d_common) rfl
    exact ⟨fd, F, He.glo_ok X G (c.t.d.fact 36 (f := .glo "common") rfl)⟩
  f_turns_of := by
    obtain ⟨fd, F⟩ := c.t.d.def_ 37 (d := DomeHead.d_turns_of) rfl
    exact ⟨fd, F, He.glo_ok X G (c.t.d.fact 37 (f := .glo "turns_of") rfl)⟩
  f_turns_near := by
    obtain ⟨fd, F⟩ := c.t.d.def_ 38 (d := DomeHead.d_turns_near) rfl
    exact ⟨fd, F, He.glo_ok X G (c.t.d.fact 38 (f := .glo "turns_near") rfl)⟩
  f_found_in := by
    obtain ⟨fd, F⟩ := c.t.d.def_ 39 (d := DomeHead.d_found_in) rfl
    exact ⟨fd, F, He.glo_ok X G (c.t.d.fact 39 (f := .glo "found_in") rfl)⟩
  f_found_again := by
    obtain ⟨fd, F⟩ := c.t.d.def_ 40 (d := DomeHead.d_found_again) rfl
    exact ⟨fd, F, He.glo_ok X G (c.t.d.fact 40 (f := .glo "found_again") rfl)⟩
  f_first_where := by
    obtain ⟨fd, F⟩ := c.t.d.def_ 41 (d := DomeHead.d_first_where) rfl
    exact ⟨fd, F, He.glo_ok X G (c.t.d.fact 41 (f := .glo "first_where") rfl)⟩
  f_is_show := by
    obtain ⟨fd, F⟩ := c.t.d.def_ 42 (d := DomeHead.d_is_show) rfl
    exact ⟨fd, F, He.glo_ok X G (c.t.d.fact 42 (f := .glo "is_show") rfl)⟩
  f_need_show := by
    obtain ⟨fd, F⟩ := c.t.d.def_ 43 (d := DomeHead.d_need_show) rfl
    exact ⟨fd, F, He.glo_ok X G (c.t.d.fact 43 (f := .glo "need_show") rfl)⟩
  f_word_of := by
    obtain ⟨fd, F⟩ := c.t.d.def_ 44 (d := DomeHead.d_word_of) rfl
    exact ⟨fd, F, He.glo_ok X G (c.t.d.fact 44 (f := .glo "word_of") rfl)⟩
  f_cell_of := by
    obtain ⟨fd, F⟩ := c.t.d.def_ 45 (d := DomeHead.d_cell_of) rfl
    exact ⟨fd, F, He.glo_ok X G (c.t.d.fact 45 (f := .glo "cell_of") rfl)⟩
  f_fault_by := by
    obtain ⟨fd, F⟩ := c.t.d.def_ 46 (d := DomeHead.d_fault_by) rfl
    exact ⟨fd, F, He.glo_ok X G (c.t.d.fact 46 (f := .glo "fault_by") rfl)⟩
  f_has_fault := by
    obtain ⟨fd, F⟩ := c.t.d.def_ 47 (d := DomeHead.d_has_fault) rfl
    exact ⟨fd, F, He.glo_ok X G (c.t.d.fact 47 (f := .glo "has_fault") rfl)⟩
  f_fault := by
    obtain ⟨fd, F⟩ := c.t.d.def_ 48 (d := DomeHead.d_fault) rfl
    exact ⟨fd, F, He.glo_ok X G (c.t.d.fact 48 (f := .glo "fault") rfl)⟩
  f_shown_at := by
    obtain ⟨fd, F⟩ := c.t.d.def_ 49 (d := DomeHead.d_shown_at) rfl
    exact ⟨fd, F, He.glo_ok X G (c.t.d.fact 49 (f := .glo "shown_at") rfl)⟩
  f_shown := by
    obtain ⟨fd, F⟩ := c.t.d.def_ 50 (d := DomeHead.d_shown) rfl
    exact ⟨fd, F, He.glo_ok X G (c.t.d.fact 50 (f := .glo "shown") rfl)⟩
  f_looked_through := by
    obtain ⟨fd, F⟩ := c.t.d.def_ 51 (d := DomeHead.d_looked_through) rfl
    exact ⟨fd, F, He.glo_ok X G (c.t.d.fact 51 (f := .glo "looked_through") rfl)⟩
  f_bad_cells := by
    obtain ⟨fd, F⟩ := c.t.d.def_ 52 (d := DomeHead.d_bad_cells) rfl
    exact ⟨fd, F, He.glo_ok X G (c.t.d.fact 52 (f := .glo "bad_cells") rfl)⟩
  f__law_cell := by
    obtain ⟨fd, F⟩ := c.t.d.def_ 53 (d := DomeHead.d__law_cell) rfl
    exact ⟨fd, F, He.glo_ok X G (c.t.d.fact 53 (f := .glo "_law_cell") rfl)⟩
  f__law_pen := by
    obtain ⟨fd, F⟩ := c.t.d.def_ 54 (d := DomeHead.d__law_pen) rfl
    exact ⟨fd, F, He.glo_ok X G (c.t.d.fact 54 (f := .glo "_law_pen") rfl)⟩
  f__law_draw := by
    obtain ⟨fd, F⟩ := c.t.d.def_ 55 (d := DomeHead.d__law_draw) rfl
    exact ⟨fd, F, He.glo_ok X G (c.t.d.fact 55 (f := .glo "_law_draw") rfl)⟩
  f__law_sky := by
    obtain ⟨fd, F⟩ := c.t.d.def_ 56 (d := DomeHead.d__law_sky) rfl
    exact ⟨fd, F, He.glo_ok X G (c.t.d.fact 56 (f := .glo "_law_sky") rfl)⟩
  f__law_lamp := by
    obtain ⟨fd, F⟩ := c.t.d.def_ 57 (d := DomeHead.d__law_lamp) rfl
    exact ⟨fd, F, He.glo_ok X G (c.t.d.fact 57 (f := .glo "_law_lamp") rfl)⟩
  f__law_lamps := by
    obtain ⟨fd, F⟩ := c.t.d.def_ 58 (d := DomeHead.d__law_lamps) rfl
    exact ⟨fd, F, He.glo_ok X G (c.t.d.fact 58 (f := .glo "_law_lamps") rfl)⟩
  f__law_state := by
    obtain ⟨fd, F⟩ := c.t.d.def_ 59 (d := DomeHead.d__law_state) rfl
    exact ⟨fd, F, He.glo_ok X G (c.t.d.fact 59 (f := .glo "_law_state") rfl)⟩
  f__law_show := by
    obtain ⟨fd, F⟩ := c.t.d.def_ 60 (d := DomeHead.d__law_show) rfl
    exact ⟨fd, F, He.glo_ok X G (c.t.d.fact 60 (f := .glo "_law_show") rfl)⟩
  f__law_item := by
    obtain ⟨fd, F⟩ := c.t.d.def_ 61 (d := DomeHead.d__law_item) rfl
    exact ⟨fd, F, He.glo_ok X G (c.t.d.fact 61 (f := .glo "_law_item") rfl)⟩
  f__law_items := by
    obtain ⟨fd, F⟩ := c.t.d.def_ 62 (d := DomeHead.d__law_items) rfl
    exact ⟨fd, F, He.glo_ok X G (c.t.d.fact 62 (f := .glo "_law_items") rfl)⟩
  f__law_steps := by
    obtain ⟨fd, F⟩ := c.t.d.def_ 63 (d := DomeHead.d__law_steps) rfl
    exact ⟨fd, F, He.glo_ok X G (c.t.d.fact 63 (f := .glo "_law_steps") rfl)⟩
  f__law_plain := by
    obtain ⟨fd, F⟩ := c.t.d.def_ 64 (d := DomeHead.d__law_plain) rfl
    exact ⟨fd, F, He.glo_ok X G (c.t.d.fact 64 (f := .glo "_law_plain") rfl)⟩
  f__law_beat := by
    obtain ⟨fd, F⟩ := c.t.d.def_ 65 (d := DomeHead.d__law_beat) rfl
    exact ⟨fd, F, He.glo_ok X G (c.t.d.fact 65 (f := .glo "_law_beat") rfl)⟩
  f__law_more_right := by
    obtain ⟨fd, F⟩ := c.t.d.def_ 66 (d := DomeHead.d__law_more_right) rfl
    exact ⟨fd, F, He.glo_ok X G (c.t.d.fact 66 (f := .glo "_law_more_right") rfl)⟩
  f__law_fewer_right := by
    obtain ⟨fd, F⟩ := c.t.d.def_ 67 (d := DomeHead.d__law_fewer_right) rfl
    exact ⟨fd, F, He.glo_ok X G (c.t.d.fact 67 (f := .glo "_law_fewer_right") rfl)⟩
  f_law := by
    obtain ⟨fd, F⟩ := c.t.d.def_ 68 (d := DomeHead.d_law) rfl
    exact ⟨fd, F, He.glo_ok X G (c.t.d.fact 68 (f := .glo "law") rfl)⟩
  nothing := He.glo_ok X G (c.t.d.fact 69 (f := .glo "NOTHING") rfl)
  b_abs := He.free_ok X G (c.t.d.fact 70 (f := .free "abs") rfl)
  b_all := He.free_ok X G (c.t.d.fact 71 (f := .free "all") rfl)
  b_bool := He.free_ok X G (c.t.d.fact 72 (f := .free "bool") rfl)
  b_enumerate := He.free_ok X G (c.t.d.fact 73 (f := .free "enumerate") rfl)
  b_int := He.free_ok X G (c.t.d.fact 74 (f := .free "int") rfl)
  b_isinstance := He.free_ok X G (c.t.d.fact 75 (f := .free "isinstance") rfl)
  b_len := He.free_ok X G (c.t.d.fact 76 (f := .free "len") rfl)
  b_list := He.free_ok X G (c.t.d.fact 77 (f := .free "list") rfl)
  b_max := He.free_ok X G (c.t.d.fact 78 (f := .free "max") rfl)
  b_min := He.free_ok X G (c.t.d.fact 79 (f := .free "min") rfl)
  b_range := He.free_ok X G (c.t.d.fact 80 (f := .free "range") rfl)
  b_set := He.free_ok X G (c.t.d.fact 81 (f := .free "set") rfl)
  b_sorted := He.free_ok X G (c.t.d.fact 82 (f := .free "sorted") rfl)
  b_str := He.free_ok X G (c.t.d.fact 83 (f := .free "str") rfl)
  b_tuple := He.free_ok X G (c.t.d.fact 84 (f := .free "tuple") rfl)
  b_zip := He.free_ok X G (c.t.d.fact 85 (f := .free "zip") rfl)
  i_LEAST_WIDE := He.int_ok X G (c.t.d.fact 86 (f := .int "LEAST_WIDE" 4) rfl)
  i_MOST_WIDE := He.int_ok X G (c.t.d.fact 87 (f := .int "MOST_WIDE" 12) rfl)
  i_MOST_HIGH := He.int_ok X G (c.t.d.fact 88 (f := .int "MOST_HIGH" 5) rfl)
  i_MOST_LIGHTS := He.int_ok X G (c.t.d.fact 89 (f := .int "MOST_LIGHTS" 6) rfl)
  i_MOST_SPEED := He.int_ok X G (c.t.d.fact 90 (f := .int "MOST_SPEED" 9) rfl)
  i_MOST_ROWS := He.int_ok X G (c.t.d.fact 91 (f := .int "MOST_ROWS" 4) rfl)
  i_MOST_LAMPS := He.int_ok X G (c.t.d.fact 92 (f := .int "MOST_LAMPS" 6) rfl)
  i_MOST_GO := He.int_ok X G (c.t.d.fact 93 (f := .int "MOST_GO" 99) rfl)
  i_MOST_TIMES := He.int_ok X G (c.t.d.fact 94 (f := .int "MOST_TIMES" 1000000) rfl)
  i_MOST_ITEMS := He.int_ok X G (c.t.d.fact 95 (f := .int "MOST_ITEMS" 8) rfl)
  i_MOST_DEEP := He.int_ok X G (c.t.d.fact 96 (f := .int "MOST_DEEP" 3) rfl)
  i_MOST_BEATS := He.int_ok X G (c.t.d.fact 97 (f := .int "MOST_BEATS" 100000000000) rfl)
  i_MOST_OFF := He.int_ok X G (c.t.d.fact 98 (f := .int "MOST_OFF" 9) rfl)
  s_AGAIN := He.str_ok X G (c.t.d.fact 99 (f := .str "AGAIN" "again") rfl)
  zero := ⟨DomeHead.nothingE K, fun H => ⟨DomeHead.tupAt_ok (He.ba c.more).1 H, DomeHead.tupAt_ok (He.ba c.more).2 H⟩⟩
theorem good_law {P : Program} {w : World} {K : PySem.W.Frag} {mg : Str → Option Value} {base : Heap} (T : Txt K mg) : Gd_law P w K mg base := by
  have G__law_cell : Gd__law_cell P w K mg base := ok__law_cell T 
  have G__law_pen : Gd__law_pen P w K mg base := ok__law_pen T 
  have G__law_draw : Gd__law_draw P w K mg base := ok__law_draw T 
  have G__law_sky : Gd__law_sky P w K mg base := ok__law_sky T G__law_draw
  have G__law_lamp : Gd__law_lamp P w K mg base := ok__law_lamp T G__law_draw
  have G__law_lamps : Gd__law_lamps P w K mg base := ok__law_lamps T G__law_lamp G__law_draw
  have G__law_show : Gd__law_show P w K mg base := ok__law_show T G__law_lamps G__law_draw
  have G__law_state : Gd__law_state P w K mg base := ok__law_state T G__law_draw
  have G__law_plain : Gd__law_plain P w K mg base := ok__law_plain T
  have G__law_items : Gd__law_items P w K mg base := ok__law_items T G__law_draw
  have G_is_row : Gd_is_row P w K mg base := ok_is_row T 
  have G_is_whole : Gd_is_whole P w K mg base := ok_is_whole T 
  have G_is_among : Gd_is_among P w K mg base := ok_is_among T G_is_whole
  have G_is_light_of : Gd_is_light_of P w K mg base := ok_is_light_of T G_is_row G_is_among
  have G_is_sky : Gd_is_sky P w K mg base := ok_is_sky T G_is_row G_is_among G_is_light_of
  have G_need_sky : Gd_need_sky P w K mg base := ok_need_sky T G_is_sky
  have G_are_items : Gd_are_items P w K mg base := ok_are_items T G_is_among G_is_row
  have G_size_of : Gd_size_of P w K mg base := ok_size_of T
  have G_is_scene_by : Gd_is_scene_by P w K mg base := ok_is_scene_by T G_are_items G_size_of
  have G_need_scene : Gd_need_scene P w K mg base := ok_need_scene T G_is_scene_by
  have G_need_both : Gd_need_both P w K mg base := ok_need_both T G_need_sky G_need_scene
  have G_beats_of : Gd_beats_of P w K mg base := ok_beats_of T G_need_both G_size_of
  have G__law_beat : Gd__law_beat P w K mg base := ok__law_beat T 
  have G_half_of : Gd_half_of P w K mg base := ok_half_of T 
  have G_is_lamp : Gd_is_lamp P w K mg base := ok_is_lamp T G_is_row G_is_among G_half_of
  have G_are_lamps : Gd_are_lamps P w K mg base := ok_are_lamps T G_is_row G_is_lamp
  have G_is_show : Gd_is_show P w K mg base := ok_is_show T G_is_among G_is_row G_are_lamps
  have G_need_show : Gd_need_show P w K mg base := ok_need_show T G_need_sky G_is_show
  have G_is_state : Gd_is_state P w K mg base := ok_is_state T G_is_row G_is_whole G_is_among
  have G_need_state : Gd_need_state P w K mg base := ok_need_state T G_is_state
  have G_unlike : Gd_unlike P w K mg base := ok_unlike T 
  have G_put_on : Gd_put_on P w K mg base := ok_put_on T G_unlike
  have G_often : Gd_often P w K mg base := ok_often T 
  obtain ⟨G_sums_of, G_sums_in⟩ := ok_sums (P := P) (w := w) (base := base) T G_put_on G_often
  have G_reach : Gd_reach P w K mg base := ok_reach T G_sums_in G_sums_of
  have G_turns_near : Gd_turns_near P w K mg base := ok_turns_near T G_reach G_sums_of
  have G_stands_by : Gd_stands_by P w K mg base := ok_stands_by T 
  have G_is_cell : Gd_is_cell P w K mg base := ok_is_cell T G_is_row G_is_among G_half_of
  have G_up_by : Gd_up_by P w K mg base := ok_up_by T G_stands_by G_is_cell
  have G_cell_of : Gd_cell_of P w K mg base := ok_cell_of T G_up_by
  have G_covers : Gd_covers P w K mg base := ok_covers T 
  have G_covering_by : Gd_covering_by P w K mg base := ok_covering_by T G_covers
  have G_word_of : Gd_word_of P w K mg base := ok_word_of T G_covering_by
  have G_fault_by : Gd_fault_by P w K mg base := ok_fault_by T G_cell_of G_word_of
  have G_has_fault : Gd_has_fault P w K mg base := ok_has_fault T G_fault_by
  have G_found_in : Gd_found_in P w K mg base := ok_found_in T G_size_of G_sums_of G_sums_in G_turns_near G_put_on G_often G_has_fault
  have G_is_back : Gd_is_back P w K mg base := ok_is_back T 
  have G_round_of : Gd_round_of P w K mg base := ok_round_of T G_need_sky G_is_back
  have G_common : Gd_common P w K mg base := ok_common T 
  have G_turns_of : Gd_turns_of P w K mg base := ok_turns_of T G_round_of G_common
  have G_first_where : Gd_first_where P w K mg base := ok_first_where T G_found_in G_round_of G_turns_of G_has_fault
  have G_sums_to : Gd_sums_to P w K mg base := ok_sums_to T G_size_of G_put_on G_sums_in G_often G_sums_of
  have G_led_by : Gd_led_by P w K mg base := ok_led_by T G_put_on G_sums_to
  have G_looked_through : Gd_looked_through P w K mg base := ok_looked_through T G_need_show G_need_scene G_need_state G_first_where G_has_fault G_fault_by G_size_of G_led_by
  have G_shown_at : Gd_shown_at P w K mg base := ok_shown_at T G_covering_by
  have G_shown : Gd_shown P w K mg base := ok_shown T G_need_show G_need_state G_shown_at G_cell_of
  have G_fault : Gd_fault P w K mg base := ok_fault T G_need_show G_need_state G_fault_by
  have G__law_more_right : Gd__law_more_right P w K mg base := ok__law_more_right T G_beats_of G__law_beat G_looked_through G_shown G_fault
  have G_cells_of : Gd_cells_of P w K mg base := ok_cells_of T G_half_of
  have G_bad_cells : Gd_bad_cells P w K mg base := ok_bad_cells T G_need_show G_cells_of G_word_of
  have G__law_fewer_right : Gd__law_fewer_right P w K mg base := ok__law_fewer_right T G_shown G_fault G_bad_cells
  have G_need_led : Gd_need_led P w K mg base := ok_need_led T G_need_both G_need_state G_is_among G_size_of
  have G_led : Gd_led P w K mg base := ok_led T G_need_led G_led_by
  exact ok_law plain_law T G__law_cell G__law_pen G__law_sky G__law_show G__law_state G__law_plain G__law_items G__law_draw G__law_more_right G__law_fewer_right G_led
theorem facts {P : Program} {w : World} {K : PySem.W.Frag} {h h' : Heap} {mg : Str → Option Value} {f : Addr} (X : K.In h) (G : h.Ns mainGlobals mg) (hfa : mg ("law" : Str) = some (.ref f)) (c : He.SaysX DomeHead.fa DomeHead.fn [] [] DomeHead.more w h' K) :
    ∃ fd : FuncData, (∀ (s : Shared) (v : Value), BindsTo s fd ⟨[v], []⟩ [("_law_script", v)]) ∧ ∀ base : Heap, K.In base → base.Ns mainGlobals mg → FnOk P w K mg base CX0 27 f fd ["_law_script"] (sp_law K) := by
  have T := txt_of X G c
  obtain ⟨fd, F, g⟩ := T.f_law
  have e := hfa.symm.trans g
  cases e
  have b := FunD.bindsA (ps := ["_law_script"]) F fun _ _ _ _ _ _ us hl => match us, hl with | [_], _ => rfl
  refine ⟨fd, fun s v => b s [v] rfl, fun base _ _ => ?_⟩
  obtain ⟨fd', ⟨FO, B⟩, oc, od, osl, lk⟩ := (good_law (P := P) (w := w) (base := base) T).ex
  obtain ⟨oc2, od2, osl2, lk2⟩ := FunD.lk F
  rw [lk2] at lk
  have ef : fd = fd' := by
    injection lk with lk
    injection lk with _ _ lk _
    injection lk
  rw [ef]
  exact FO
end Dome
open PySem PySem.W PySem.Calls PyProof.Rows
theorem PySem.Challenge.cw_domelights_k55_whole_hidden_lights_holds : PySem.Challenge.rw_domelights_k55_whole_hidden_lights.Holds := by
  w_on; o_law
  refine HandSHeadRun.head_any (r := OpenLaw.row PySem.Challenge.rw_domelights_k55_whole_hidden_lights) (q := view (OpenLaw.row PySem.Challenge.rw_domelights_k55_whole_hidden_lights).prog [96]) (H := DomeHead.hk) (ob := DomeHead.ob) (M := 4000) (loose := DomeHead.loose) (d := HandSHeadRun.topDef (OpenLaw.row PySem.Challenge.rw_domelights_k55_whole_hidden_lights).prog 96) (kwd := []) DomeHead.ob_eq
    (by kernel_rfl) (fun s => by kernel_rfl) DomeHead.run (by kernel_rfl) (by kernel_rfl) (by kernel_rfl) (by rfl) (by first | assumption | decide +kernel) (by decide +kernel) ⟨rfl, rfl, rfl, rfl, rfl, by decide +kernel⟩ ?hw ?hc
  case hw => w_witness2
  case hc =>
    refine L2.walk_ofE (l := PySem.Challenge.rw_domelights_k55_whole_hidden_lights) (n := 63) (k := 27) (x := "_law_script") (CX := L2.CX0) rfl (by decide) (by kernel_rfl) ⟨rfl, by decide, by decide⟩ ?F (fun _ _ _ _ z => z)
    intro w mg fa h Y G hmg0
    obtain ⟨K, KX, c⟩ := Y
    have hmg : mg ("law" : PySem.Str) = some (.ref fa) := by
      have e : (HandSHeadRun.topDef (OpenLaw.row PySem.Challenge.rw_domelights_k55_whole_hidden_lights).prog 96).name = ("law" : PySem.Str) := by kernel_rfl
      rw [← e]
      exact hmg0
    obtain ⟨fd, hb, hF⟩ := Dome.facts (P := (PySem.Challenge.rw_domelights_k55_whole_hidden_lights).prog) (w := w) KX G hmg c
    exact ⟨K, fd, Dome.sp_law K, KX, hb, fun H a ns hl _ hS => ⟨a, ns, rfl, hS, fun _ => rfl⟩, hF⟩
